/- Written by a program of this session (a turned copy of the kit's print): a contract for each Go function. No condition beside those in each statement. -/
import Derived.Test.YtodicbbeaidibaaPFnExactSummedx0
import Derived.Test.YtodicbbeaidibaaPFnExactSummedx1
import Derived.Test.YtodicbbeaidibaaPFnExactSummedx2
import Derived.Test.YtodicbbeaidibaaPFnExactSummedx3
import Derived.Test.YtodicbbeaidibaaPFnExactSummedx4
namespace Go.Proofs.Ytodicbbeaidibaa.PFnExactSummed
open Go.RowKit Go.Proofs.YtodicbbeaidibaaW.PrintWords Go.Proofs.YtodicbbeaidibaaW.PrintLast Go.Proofs.YtodicbbeaidibaaW.PrintMore
attribute [local go_sem] max2_int min2_int max_two min_two max_three min_three max_four min_four   -- for this text's walks alone
set_option linter.unusedVariables false
set_option linter.unusedSimpArgs false

set_option maxHeartbeats 8000000 in
set_option maxRecDepth 100000 in
def laws_FnExactSummed.callsP0 :
  {G_ : Prop // RestG G_ → ∀ (k : Nat) (A0_0 : Option Addr) (c0_0 : Nat) (l0_0 : List (S98)) (A0_1 : Option Addr) (c0_1 : Nat) (l0_1 : List Int) (A0_2 : Option Addr) (c0_2 : Nat) (l0_2 : List Int) (a0_3 : Int) (a0_4 : Int) (a1 : Int) (a2 : Int) (r : Bool) (w : World) (hr0_0 : Kd.C k98 w A0_0 l0_0.length l0_0) (hc0_0 : l0_0.length ≤ c0_0) (hr0_1 : Kd.C (Kd.int .i64) w A0_1 l0_1.length l0_1) (hc0_1 : l0_1.length ≤ c0_1) (hr0_2 : Kd.C (Kd.int .i64) w A0_2 l0_2.length l0_2) (hc0_2 : l0_2.length ≤ c0_2) (h : laws_FnExactSummed.f k l0_0 l0_1 l0_2 a0_3 a0_4 a1 a2 = some r),
  Calls Try.prog 3 #[.agg #[.slice A0_0 l0_0.length c0_0, .slice A0_1 l0_1.length c0_1, .slice A0_2 l0_2.length c0_2, .int .i64 a0_3, .int .i64 a0_4], .int .i64 a1, .int .i64 a2] w fun e w' => e = .returned (.bool r) ∧ Below w.heap.size w w'} := ⟨_, by
 intro hG_
 intro k A0_0 c0_0 l0_0 A0_1 c0_1 l0_1 A0_2 c0_2 l0_2 a0_3 a0_4 a1 a2 r w hr0_0 hc0_0 hr0_1 hc0_1 hr0_2 hc0_2 h
 have hu25 := Try.underlying25
 have hu29 := Try.underlying29
 have HR0_0 := Aside0.mk hr0_0
 have HC0_0 := Aside0.mk hc0_0
 clear hr0_0 hc0_0
 have HR0_1 := Aside0.mk hr0_1
 have HC0_1 := Aside0.mk hc0_1
 clear hr0_1 hc0_1
 have HR0_2 := Aside0.mk hr0_2
 have HC0_2 := Aside0.mk hc0_2
 clear hr0_2 hc0_2
 have HB := Aside0.mk (Below.refl w.heap.size w)
 have H : ((laws_szMemory.f l0_0 l0_1 l0_2 a0_3 a0_4 1048576).bind fun t233 => (if t233 < 0 then (some true) else (laws_FnExactSummed.j0 k a1 a2 l0_0 l0_1 l0_2 a0_3 a0_4))) = some r := h
 clear h
 replace H := Option.bind_eq_some_iff.mp H
 obtain ⟨t233, A40, H⟩ := H
 replace H : (if t233 < 0 then (some true) else (laws_FnExactSummed.j0 k a1 a2 l0_0 l0_1 l0_2 a0_3 a0_4)) = some r := H
 have A4 := Aside0.mk A40
 clear A40
 have HC5 := Aside0.mk H
 clear H
 go_enter Try.func3, Try.ntmps3
 go_upto_if 22 with (first | ((with_reducible refine gate_dst (N := 3) rfl ?_); refine box_event ?hg (N := 3) ?hd (cs := #[.slice A0_0 l0_0.length c0_0, .slice A0_1 l0_1.length c0_1, .slice A0_2 l0_2.length c0_2, .int .i64 a0_3, .int .i64 a0_4]) (t := 25) ?hr ?_; (case hd => rfl); (case hg => rfl); (case hr => first | (go_simp; done) | (go_simp; rfl)); intro gb232 hg w6 hbox hb; have n0_ := Aside0.mk (below_step (by repeat (first | (with_reducible first | exact HB.out | apply below_alloc | apply pw_below_drewN | apply below_drew1) | exact HB.out)) hb); have n1_ := Aside0.mk (hbox); have n2_ := Aside0.mk ((by rw [hg]; exact (below_size (by repeat (first | (with_reducible first | exact HB.out | apply below_alloc | apply pw_below_drewN | apply below_drew1) | exact HB.out))) : w.heap.size ≤ gb232)); have n3_ := Aside0.mk ((by rw [hg]; exact (below_size (by repeat (first | (with_reducible first | exact HB.out | apply below_alloc | apply pw_below_drewN | apply below_drew1) | exact HB.out))) : w.heap.size ≤ gb232)); clear HB; have HB := n0_; have BK232 := n1_; have GW232 := n2_; have GE232 := n3_; clear n0_ n1_ n2_ n3_; clear hb hbox hg; have hcz7_0 : w6.cell? ⟨gb232, 0, none⟩ = some (.slice A0_0 l0_0.length c0_0) := (blk_cell BK232.out 0).trans rfl; have hcz7_1 : w6.cell? ⟨gb232, 1, none⟩ = some (.slice A0_1 l0_1.length c0_1) := (blk_cell BK232.out 1).trans rfl; have hcz7_2 : w6.cell? ⟨gb232, 2, none⟩ = some (.slice A0_2 l0_2.length c0_2) := (blk_cell BK232.out 2).trans rfl; have hcz7_3 : w6.cell? ⟨gb232, 3, none⟩ = some (.int .i64 a0_3) := (blk_cell BK232.out 3).trans rfl; have hcz7_4 : w6.cell? ⟨gb232, 4, none⟩ = some (.int .i64 a0_4) := (blk_cell BK232.out 4).trans rfl; have hfz7_0 := blk_frozen BK232.out 0; have hfz7_1 := blk_frozen BK232.out 1; have hfz7_2 := blk_frozen BK232.out 2; have hfz7_3 := blk_frozen BK232.out 3; have hfz7_4 := blk_frozen BK232.out 4) | ((with_reducible refine gate_callee (f := 10) rfl ?_); refine goesL_ (some 20) rfl rfl Try.func10 (by kernel_rfl) rfl #[.agg #[.slice A0_0 l0_0.length c0_0, .slice A0_1 l0_1.length c0_1, .slice A0_2 l0_2.length c0_2, .int .i64 a0_3, .int .i64 a0_4], .int .i64 1048576] rfl (by (try simp only [List.map_toArray, List.map_cons, List.map_nil]); first | done | rfl | (simp only [List.length_drop, List.length_take]; rfl)) ?_; (with_reducible refine (laws_szMemory.calls _ _ l0_0 _ _ l0_1 _ _ l0_2 a0_3 a0_4 1048576 t233 _ ?side1 ?side2 ?side3 ?side4 ?side5 ?side6 A4.out).mono ?_); (case side1 => repeat (first | exact (Kd.C_below HR0_0.out HB.out) | (with_reducible refine Kd.C_alloc ?_ _) | (with_reducible refine Kd.C_drewN ?_ _) | (with_reducible refine Kd.C_drew ?_))); (case side2 => exact HC0_0.out); (case side3 => repeat (first | exact (Kd.C_below HR0_1.out HB.out) | (with_reducible refine Kd.C_alloc ?_ _) | (with_reducible refine Kd.C_drewN ?_ _) | (with_reducible refine Kd.C_drew ?_))); (case side4 => exact HC0_1.out); (case side5 => repeat (first | exact (Kd.C_below HR0_2.out HB.out) | (with_reducible refine Kd.C_alloc ?_ _) | (with_reducible refine Kd.C_drewN ?_ _) | (with_reducible refine Kd.C_drew ?_))); (case side6 => exact HC0_2.out); rintro e w8 ⟨rfl, hb⟩; refine ⟨_, rfl, ?_⟩; have n0_ := Aside0.mk (blk_below (g := gb232) (o := .cells #[.slice A0_0 l0_0.length c0_0, .slice A0_1 l0_1.length c0_1, .slice A0_2 l0_2.length c0_2, .int .i64 a0_3, .int .i64 a0_4] 25 (0, 0)) (by (with_reducible repeat (first | refine blk_drewN ?_ _ | refine blk_drew ?_ | refine blk_alloc ?_ _)); exact BK232.out) hb); have n1_ := Aside0.mk (below_step (by repeat (first | (with_reducible first | exact HB.out | apply below_alloc | apply pw_below_drewN | apply below_drew1 | refine below_set ?_ GE232.out) | exact HB.out)) hb); clear BK232; clear HB; have BK232 := n0_; have HB := n1_; clear n0_ n1_; (try clear hb); (try clear hb2); (try clear hk); (try clear hi)))
 (try simp only [Act.put, List.setIfInBounds_toArray, List.set_cons_zero, List.set_cons_succ])
 go_cut [] (fun wc => ∃ (kq : Nat), Aside0 (laws_FnExactSummed.j0 kq a1 a2 l0_0 l0_1 l0_2 a0_3 a0_4 = some r) ∧ Aside0 (kq ≤ k) ∧ Aside0 (wc.heap[gb232]? = some (.cells #[(.slice A0_0 l0_0.length c0_0), (.slice A0_1 l0_1.length c0_1), (.slice A0_2 l0_2.length c0_2), .int .i64 a0_3, .int .i64 a0_4] 25 (0, 0))) ∧ Aside0 (Below w.heap.size w wc))
 case first =>
  have H := HC5.out
  clear HC5
  by_cases c9 : t233 < 0
  ·
   rw [if_pos c9] at H
   have c9b0 : decide (t233 < 0) = true := decide_eq_true c9
   clear c9
   (first | rw [c9b0] | (simp only [i64_w, i32_w]; rw [c9b0]) | skip)
   obtain rfl := Option.some.inj H
   go_wp2
   go_ret
   exact ⟨by first | rfl | (simp [errW_none, errW_some] <;> rfl) | (simp [*, errW_none, errW_some] <;> rfl), by repeat (first | (with_reducible first | exact HB.out | apply below_alloc | apply pw_below_drewN | apply below_drew1 | refine below_set ?_ GE232.out) | exact HB.out)⟩
  ·
   rw [if_neg c9] at H
   have c9b0 : decide (t233 < 0) = false := decide_eq_false c9
   clear c9
   (first | rw [c9b0] | (simp only [i64_w, i32_w]; rw [c9b0]) | skip)
   have H' := Aside0.mk H
   clear H
   go_wp2
   go_meet
   case rel => exact ⟨_, H', ⟨by first | omega | exact Nat.le_refl _⟩, ⟨by (with_reducible repeat (first | refine blk_drewN ?_ _ | refine blk_drew ?_ | refine blk_alloc ?_ _)); exact BK232.out⟩, ⟨by repeat (first | (with_reducible first | exact HB.out | apply below_alloc | apply pw_below_drewN | apply below_drew1 | refine below_set ?_ GE232.out) | exact HB.out)⟩⟩
 case rest =>
  clear HC5
  try clear c1
  try clear p2
  try clear c3
  try clear c9
  try clear c9b0
  try clear hcz7_0
  try clear hcz7_1
  try clear hcz7_2
  try clear hcz7_3
  try clear hcz7_4
  try clear hfz7_0
  try clear hfz7_1
  try clear hfz7_2
  try clear hfz7_3
  try clear hfz7_4
  obtain ⟨kq, HA, HJ4, BK232, HB⟩ := hcut
  cases kq with
  | zero => exact absurd HA.out (by simp [laws_FnExactSummed.j0])
  | succ kj4 =>
   have H := HA.out
   clear HA
   simp only [laws_FnExactSummed.j0] at H
   replace H := Option.bind_eq_some_iff.mp H
   obtain ⟨⟨t234, t237, t240, t243, t244⟩, A100, H⟩ := H
   replace H : ((spec_Summed.f t234 t237 t240 t243 t244 a1 a2).bind fun bt245 => ((laws_toMemory.f kj4 l0_0 l0_1 l0_2 a0_3 a0_4).bind fun bt258 => ((impl_Summed.f bt258.1 bt258.2.1 bt258.2.2.1 bt258.2.2.2.1 bt258.2.2.2.2 a1 a2).bind fun bt270 => ((laws_eqMemory.f kj4 bt270.1 bt270.2.1 bt270.2.2.1 bt270.2.2.2.1 bt270.2.2.2.2.1 bt245.1 bt245.2.1 bt245.2.2.1 bt245.2.2.2.1 bt245.2.2.2.2.1).bind fun t283 => (if t283 = true then (laws_FnExactSummed.j1 kj4 a1 a2 bt245.2.2.2.2.2 bt270.2.2.2.2.2 (bt270.2.2.2.2.2 != bt245.2.2.2.2.2) l0_0 l0_1 l0_2 a0_3 a0_4 bt245.1 bt245.2.1 bt245.2.2.1 bt245.2.2.2.1 bt245.2.2.2.2.1 bt258.1 bt258.2.1 bt258.2.2.1 bt258.2.2.2.1 bt258.2.2.2.2 bt270.1 bt270.2.1 bt270.2.2.1 bt270.2.2.2.1 bt270.2.2.2.2.1) else (laws_FnExactSummed.j1 kj4 a1 a2 bt245.2.2.2.2.2 bt270.2.2.2.2.2 true l0_0 l0_1 l0_2 a0_3 a0_4 bt245.1 bt245.2.1 bt245.2.2.1 bt245.2.2.2.1 bt245.2.2.2.2.1 bt258.1 bt258.2.1 bt258.2.2.1 bt258.2.2.2.1 bt258.2.2.2.2 bt270.1 bt270.2.1 bt270.2.2.1 bt270.2.2.2.1 bt270.2.2.2.2.1)))))) = some r := H
   have A10 := Aside0.mk A100
   clear A100
   replace H := Option.bind_eq_some_iff.mp H
   obtain ⟨⟨t245, t248, t251, t254, t255, t256⟩, A110, H⟩ := H
   replace H : ((laws_toMemory.f kj4 l0_0 l0_1 l0_2 a0_3 a0_4).bind fun bt258 => ((impl_Summed.f bt258.1 bt258.2.1 bt258.2.2.1 bt258.2.2.2.1 bt258.2.2.2.2 a1 a2).bind fun bt270 => ((laws_eqMemory.f kj4 bt270.1 bt270.2.1 bt270.2.2.1 bt270.2.2.2.1 bt270.2.2.2.2.1 t245 t248 t251 t254 t255).bind fun t283 => (if t283 = true then (laws_FnExactSummed.j1 kj4 a1 a2 t256 bt270.2.2.2.2.2 (bt270.2.2.2.2.2 != t256) l0_0 l0_1 l0_2 a0_3 a0_4 t245 t248 t251 t254 t255 bt258.1 bt258.2.1 bt258.2.2.1 bt258.2.2.2.1 bt258.2.2.2.2 bt270.1 bt270.2.1 bt270.2.2.1 bt270.2.2.2.1 bt270.2.2.2.2.1) else (laws_FnExactSummed.j1 kj4 a1 a2 t256 bt270.2.2.2.2.2 true l0_0 l0_1 l0_2 a0_3 a0_4 t245 t248 t251 t254 t255 bt258.1 bt258.2.1 bt258.2.2.1 bt258.2.2.2.1 bt258.2.2.2.2 bt270.1 bt270.2.1 bt270.2.2.1 bt270.2.2.2.1 bt270.2.2.2.2.1))))) = some r := H
   have A11 := Aside0.mk A110
   clear A110
   replace H := Option.bind_eq_some_iff.mp H
   obtain ⟨⟨t258, t261, t264, t267, t268⟩, A120, H⟩ := H
   replace H : ((impl_Summed.f t258 t261 t264 t267 t268 a1 a2).bind fun bt270 => ((laws_eqMemory.f kj4 bt270.1 bt270.2.1 bt270.2.2.1 bt270.2.2.2.1 bt270.2.2.2.2.1 t245 t248 t251 t254 t255).bind fun t283 => (if t283 = true then (laws_FnExactSummed.j1 kj4 a1 a2 t256 bt270.2.2.2.2.2 (bt270.2.2.2.2.2 != t256) l0_0 l0_1 l0_2 a0_3 a0_4 t245 t248 t251 t254 t255 t258 t261 t264 t267 t268 bt270.1 bt270.2.1 bt270.2.2.1 bt270.2.2.2.1 bt270.2.2.2.2.1) else (laws_FnExactSummed.j1 kj4 a1 a2 t256 bt270.2.2.2.2.2 true l0_0 l0_1 l0_2 a0_3 a0_4 t245 t248 t251 t254 t255 t258 t261 t264 t267 t268 bt270.1 bt270.2.1 bt270.2.2.1 bt270.2.2.2.1 bt270.2.2.2.2.1)))) = some r := H
   have A12 := Aside0.mk A120
   clear A120
   replace H := Option.bind_eq_some_iff.mp H
   obtain ⟨⟨t270, t273, t276, t279, t280, t281⟩, A130, H⟩ := H
   replace H : ((laws_eqMemory.f kj4 t270 t273 t276 t279 t280 t245 t248 t251 t254 t255).bind fun t283 => (if t283 = true then (laws_FnExactSummed.j1 kj4 a1 a2 t256 t281 (t281 != t256) l0_0 l0_1 l0_2 a0_3 a0_4 t245 t248 t251 t254 t255 t258 t261 t264 t267 t268 t270 t273 t276 t279 t280) else (laws_FnExactSummed.j1 kj4 a1 a2 t256 t281 true l0_0 l0_1 l0_2 a0_3 a0_4 t245 t248 t251 t254 t255 t258 t261 t264 t267 t268 t270 t273 t276 t279 t280))) = some r := H
   have A13 := Aside0.mk A130
   clear A130
   have HC14 := Aside0.mk H
   clear H
   have hcz15_0 : wc.cell? ⟨gb232, 0, none⟩ = some (.slice A0_0 l0_0.length c0_0) := (blk_cell BK232.out 0).trans rfl
   have hcz15_1 : wc.cell? ⟨gb232, 1, none⟩ = some (.slice A0_1 l0_1.length c0_1) := (blk_cell BK232.out 1).trans rfl
   have hcz15_2 : wc.cell? ⟨gb232, 2, none⟩ = some (.slice A0_2 l0_2.length c0_2) := (blk_cell BK232.out 2).trans rfl
   have hcz15_3 : wc.cell? ⟨gb232, 3, none⟩ = some (.int .i64 a0_3) := (blk_cell BK232.out 3).trans rfl
   have hcz15_4 : wc.cell? ⟨gb232, 4, none⟩ = some (.int .i64 a0_4) := (blk_cell BK232.out 4).trans rfl
   have hfz15_0 := blk_frozen BK232.out 0
   have hfz15_1 := blk_frozen BK232.out 1
   have hfz15_2 := blk_frozen BK232.out 2
   have hfz15_3 := blk_frozen BK232.out 3
   have hfz15_4 := blk_frozen BK232.out 4
   go_upto_region 8 with (first | ((with_reducible refine gate_callee (f := 12) rfl ?_); refine goesL_ (some 25) rfl rfl Try.func12 (by kernel_rfl) rfl #[.agg #[.slice A0_0 l0_0.length c0_0, .slice A0_1 l0_1.length c0_1, .slice A0_2 l0_2.length c0_2, .int .i64 a0_3, .int .i64 a0_4]] rfl (by (try simp only [List.map_toArray, List.map_cons, List.map_nil]); first | done | rfl | (simp only [List.length_drop, List.length_take]; rfl)) ?_; (with_reducible refine (laws_toMemory.calls kj4 _ _ l0_0 _ _ l0_1 _ _ l0_2 a0_3 a0_4 t234 t237 t240 t243 t244 _ ?side1 ?side2 ?side3 ?side4 ?side5 ?side6 A10.out).mono ?_); (case side1 => repeat (first | exact (Kd.C_below HR0_0.out HB.out) | (with_reducible refine Kd.C_alloc ?_ _) | (with_reducible refine Kd.C_drewN ?_ _) | (with_reducible refine Kd.C_drew ?_))); (case side2 => exact HC0_0.out); (case side3 => repeat (first | exact (Kd.C_below HR0_1.out HB.out) | (with_reducible refine Kd.C_alloc ?_ _) | (with_reducible refine Kd.C_drewN ?_ _) | (with_reducible refine Kd.C_drew ?_))); (case side4 => exact HC0_1.out); (case side5 => repeat (first | exact (Kd.C_below HR0_2.out HB.out) | (with_reducible refine Kd.C_alloc ?_ _) | (with_reducible refine Kd.C_drewN ?_ _) | (with_reducible refine Kd.C_drew ?_))); (case side6 => exact HC0_2.out); rintro e w16 ⟨v235, v238, v241, rfl, ho0, ho1, ho2, hb⟩; refine ⟨_, rfl, ?_⟩; have n0_ := Aside0.mk (Kd.R_lower ho0 (below_size (by repeat (first | (with_reducible first | exact HB.out | apply below_alloc | apply pw_below_drewN | apply below_drew1 | refine below_set ?_ GE232.out) | exact HB.out)))); have n1_ := Aside0.mk (Kd.R_lower ho1 (below_size (by repeat (first | (with_reducible first | exact HB.out | apply below_alloc | apply pw_below_drewN | apply below_drew1 | refine below_set ?_ GE232.out) | exact HB.out)))); have n2_ := Aside0.mk (Kd.R_lower ho2 (below_size (by repeat (first | (with_reducible first | exact HB.out | apply below_alloc | apply pw_below_drewN | apply below_drew1 | refine below_set ?_ GE232.out) | exact HB.out)))); have n3_ := Aside0.mk (blk_below (g := gb232) (o := .cells #[.slice A0_0 l0_0.length c0_0, .slice A0_1 l0_1.length c0_1, .slice A0_2 l0_2.length c0_2, .int .i64 a0_3, .int .i64 a0_4] 25 (0, 0)) (by (with_reducible repeat (first | refine blk_drewN ?_ _ | refine blk_drew ?_ | refine blk_alloc ?_ _)); exact BK232.out) hb); have n4_ := Aside0.mk (below_step (by repeat (first | (with_reducible first | exact HB.out | apply below_alloc | apply pw_below_drewN | apply below_drew1 | refine below_set ?_ GE232.out) | exact HB.out)) hb); clear BK232; clear HB; have HO236 := n0_; have HO239 := n1_; have HO242 := n2_; have BK232 := n3_; have HB := n4_; clear n0_ n1_ n2_ n3_ n4_; (try clear hb); (try clear hb2); (try clear hk); (try clear hi); (try clear ho0); (try clear ho1); (try clear ho2); obtain ⟨Ao17, co17, eo17⟩ := Kd.R_slice HO236.out; subst eo17; obtain ⟨Ao18, co18, eo18⟩ := Kd.R_slice HO239.out; subst eo18; obtain ⟨Ao19, co19, eo19⟩ := Kd.R_slice HO242.out; subst eo19) | ((with_reducible refine gate_callee (f := 11) rfl ?_); refine goesL_ (some 28) rfl rfl Try.func11 (by kernel_rfl) rfl #[.agg #[.slice Ao17 t234.length co17, .slice Ao18 t237.length co18, .slice Ao19 t240.length co19, .int .i64 t243, .int .i64 t244], .int .i64 a1, .int .i64 a2] rfl (by (try simp only [List.map_toArray, List.map_cons, List.map_nil]); first | done | rfl | (simp only [List.length_drop, List.length_take]; rfl)) ?_; (with_reducible refine (spec_Summed.calls _ _ t234 _ _ t237 _ _ t240 t243 t244 a1 a2 t245 t248 t251 t254 t255 t256 _ ?side1 ?side2 ?side3 ?side4 ?side5 ?side6 A11.out).mono ?_); (case side1 => repeat (first | exact (Kd.R_reads' HO236.out).2.2 | (with_reducible refine Kd.C_alloc ?_ _) | (with_reducible refine Kd.C_drewN ?_ _) | (with_reducible refine Kd.C_drew ?_))); (case side2 => exact (Kd.R_reads' HO236.out).2.1); (case side3 => repeat (first | exact (Kd.R_reads' HO239.out).2.2 | (with_reducible refine Kd.C_alloc ?_ _) | (with_reducible refine Kd.C_drewN ?_ _) | (with_reducible refine Kd.C_drew ?_))); (case side4 => exact (Kd.R_reads' HO239.out).2.1); (case side5 => repeat (first | exact (Kd.R_reads' HO242.out).2.2 | (with_reducible refine Kd.C_alloc ?_ _) | (with_reducible refine Kd.C_drewN ?_ _) | (with_reducible refine Kd.C_drew ?_))); (case side6 => exact (Kd.R_reads' HO242.out).2.1); rintro e w20 ⟨v246, v249, v252, rfl, ho0, ho1, ho2, hb⟩; refine ⟨_, rfl, ?_⟩; have n0_ := Aside0.mk (Kd.R_elder' (by (with_reducible repeat (first | apply Kd.R_alloc | apply Kd.R_drewN | apply Kd.R_drew)); exact HO236.out) (Kd.R_base ho0) hb); have n1_ := Aside0.mk (Kd.R_mono (Kd.R_told (Kd.R_told (Kd.R_old (by (with_reducible repeat (first | apply Kd.R_alloc | apply Kd.R_drewN | apply Kd.R_drew)); exact HO239.out) hb) (Kd.R_base ho1)) (Kd.R_base ho2)) (fun _ h_ => h_.1)); have n2_ := Aside0.mk (Kd.R_mono (Kd.R_told (Kd.R_told (Kd.R_old (by (with_reducible repeat (first | apply Kd.R_alloc | apply Kd.R_drewN | apply Kd.R_drew)); exact HO242.out) hb) (Kd.R_base ho1)) (Kd.R_base ho2)) (fun _ h_ => h_.1)); have n3_ := Aside0.mk (Kd.R_lower (Kd.R_new' ho0 (Kd.R_lt (by (with_reducible repeat (first | apply Kd.R_alloc | apply Kd.R_drewN | apply Kd.R_drew)); exact HO236.out))) (below_size (by repeat (first | (with_reducible first | exact HB.out | apply below_alloc | apply pw_below_drewN | apply below_drew1 | refine below_set ?_ GE232.out) | exact HB.out)))); have n4_ := Aside0.mk (Kd.R_lower (Kd.R_new' (Kd.R_new' ho1 (Kd.R_lt (by (with_reducible repeat (first | apply Kd.R_alloc | apply Kd.R_drewN | apply Kd.R_drew)); exact HO239.out))) (Kd.R_lt (by (with_reducible repeat (first | apply Kd.R_alloc | apply Kd.R_drewN | apply Kd.R_drew)); exact HO242.out))) (below_size (by repeat (first | (with_reducible first | exact HB.out | apply below_alloc | apply pw_below_drewN | apply below_drew1 | refine below_set ?_ GE232.out) | exact HB.out)))); have n5_ := Aside0.mk (Kd.R_lower (Kd.R_new' (Kd.R_new' ho2 (Kd.R_lt (by (with_reducible repeat (first | apply Kd.R_alloc | apply Kd.R_drewN | apply Kd.R_drew)); exact HO239.out))) (Kd.R_lt (by (with_reducible repeat (first | apply Kd.R_alloc | apply Kd.R_drewN | apply Kd.R_drew)); exact HO242.out))) (below_size (by repeat (first | (with_reducible first | exact HB.out | apply below_alloc | apply pw_below_drewN | apply below_drew1 | refine below_set ?_ GE232.out) | exact HB.out)))); have n6_ := Aside0.mk (blk_below (g := gb232) (o := .cells #[.slice A0_0 l0_0.length c0_0, .slice A0_1 l0_1.length c0_1, .slice A0_2 l0_2.length c0_2, .int .i64 a0_3, .int .i64 a0_4] 25 (0, 0)) (by (with_reducible repeat (first | refine blk_drewN ?_ _ | refine blk_drew ?_ | refine blk_alloc ?_ _)); exact BK232.out) hb); have n7_ := Aside0.mk (below_step (by repeat (first | (with_reducible first | exact HB.out | apply below_alloc | apply pw_below_drewN | apply below_drew1 | refine below_set ?_ GE232.out) | exact HB.out)) hb); clear HO236; clear HO239; clear HO242; clear BK232; clear HB; have HO236 := n0_; have HO239 := n1_; have HO242 := n2_; have HO247 := n3_; have HO250 := n4_; have HO253 := n5_; have BK232 := n6_; have HB := n7_; clear n0_ n1_ n2_ n3_ n4_ n5_ n6_ n7_; (try clear hb); (try clear hb2); (try clear hk); (try clear hi); (try clear ho0); (try clear ho1); (try clear ho2)) | ((with_reducible refine gate_dst (N := 8) rfl ?_); refine box_event ?hg (N := 8) ?hd (cs := #[.slice none 0 0, .slice none 0 0, .slice none 0 0, .int .i64 0, .int .i64 0]) (t := 29) ?hr ?_; (case hd => rfl); (case hg => rfl); (case hr => first | (go_simp; done) | (go_simp; rfl)); intro gb257 hg w21 hbox hb; have n0_ := Aside0.mk (Kd.R_below (by (with_reducible repeat (first | apply Kd.R_alloc | apply Kd.R_drewN | apply Kd.R_drew)); exact HO247.out) hb); have n1_ := Aside0.mk (Kd.R_below (by (with_reducible repeat (first | apply Kd.R_alloc | apply Kd.R_drewN | apply Kd.R_drew)); exact HO250.out) hb); have n2_ := Aside0.mk (Kd.R_below (by (with_reducible repeat (first | apply Kd.R_alloc | apply Kd.R_drewN | apply Kd.R_drew)); exact HO253.out) hb); have n3_ := Aside0.mk (blk_below (g := gb232) (o := .cells #[.slice A0_0 l0_0.length c0_0, .slice A0_1 l0_1.length c0_1, .slice A0_2 l0_2.length c0_2, .int .i64 a0_3, .int .i64 a0_4] 25 (0, 0)) (by (with_reducible repeat (first | refine blk_drewN ?_ _ | refine blk_drew ?_ | refine blk_alloc ?_ _)); exact BK232.out) hb); have n4_ := Aside0.mk (below_step (by repeat (first | (with_reducible first | exact HB.out | apply below_alloc | apply pw_below_drewN | apply below_drew1 | refine below_set ?_ GE232.out) | exact HB.out)) hb); have n5_ := Aside0.mk (hbox); have n6_ := Aside0.mk ((by rw [hg]; exact (below_size (by repeat (first | (with_reducible first | exact HB.out | apply below_alloc | apply pw_below_drewN | apply below_drew1 | refine below_set ?_ GE232.out) | exact HB.out))) : w.heap.size ≤ gb257)); have n7_ := Aside0.mk ((by rw [hg]; exact (below_size (by repeat (first | (with_reducible first | exact HB.out | apply below_alloc | apply pw_below_drewN | apply below_drew1 | refine below_set ?_ GE232.out) | exact HB.out))) : w.heap.size ≤ gb257)); have n8_ := Aside0.mk ((by rw [hg]; exact Nat.ne_of_lt (blk_lt (g := gb232) (o := .cells #[.slice A0_0 l0_0.length c0_0, .slice A0_1 l0_1.length c0_1, .slice A0_2 l0_2.length c0_2, .int .i64 a0_3, .int .i64 a0_4] 25 (0, 0)) (by (with_reducible repeat (first | refine blk_drewN ?_ _ | refine blk_drew ?_ | refine blk_alloc ?_ _)); exact BK232.out)) : gb232 ≠ gb257)); have n9_ := Aside0.mk ((by rw [hg]; exact Nat.ne_of_gt (blk_lt (g := gb232) (o := .cells #[.slice A0_0 l0_0.length c0_0, .slice A0_1 l0_1.length c0_1, .slice A0_2 l0_2.length c0_2, .int .i64 a0_3, .int .i64 a0_4] 25 (0, 0)) (by (with_reducible repeat (first | refine blk_drewN ?_ _ | refine blk_drew ?_ | refine blk_alloc ?_ _)); exact BK232.out)) : gb257 ≠ gb232)); clear HO247; clear HO250; clear HO253; clear BK232; clear HB; have HO247 := n0_; have HO250 := n1_; have HO253 := n2_; have BK232 := n3_; have HB := n4_; have BK257 := n5_; have GW257 := n6_; have GE257 := n7_; have NB232_257 := n8_; have NB257_232 := n9_; clear n0_ n1_ n2_ n3_ n4_ n5_ n6_ n7_ n8_ n9_; clear hb hbox hg; obtain ⟨Ao22, co22, eo22⟩ := Kd.R_slice HO247.out; subst eo22; have hnb23 := NB257_232.out; have hnc23 := NB232_257.out; have hcz24_0 : w21.cell? ⟨gb257, 0, none⟩ = some (.slice none 0 0) := (blk_cell BK257.out 0).trans rfl; have hcz24_1 : w21.cell? ⟨gb257, 1, none⟩ = some (.slice none 0 0) := (blk_cell BK257.out 1).trans rfl; have hcz24_2 : w21.cell? ⟨gb257, 2, none⟩ = some (.slice none 0 0) := (blk_cell BK257.out 2).trans rfl; have hcz24_3 : w21.cell? ⟨gb257, 3, none⟩ = some (.int .i64 0) := (blk_cell BK257.out 3).trans rfl; have hcz24_4 : w21.cell? ⟨gb257, 4, none⟩ = some (.int .i64 0) := (blk_cell BK257.out 4).trans rfl; have hfz24_0 := blk_frozen BK257.out 0; have hfz24_1 := blk_frozen BK257.out 1; have hfz24_2 := blk_frozen BK257.out 2; have hfz24_3 := blk_frozen BK257.out 3; have hfz24_4 := blk_frozen BK257.out 4; obtain ⟨Ao25, co25, eo25⟩ := Kd.R_slice HO250.out; subst eo25; obtain ⟨Ao26, co26, eo26⟩ := Kd.R_slice HO253.out; subst eo26; have hcz27_0 : w21.cell? ⟨gb232, 0, none⟩ = some (.slice A0_0 l0_0.length c0_0) := (blk_cell BK232.out 0).trans rfl; have hcz27_1 : w21.cell? ⟨gb232, 1, none⟩ = some (.slice A0_1 l0_1.length c0_1) := (blk_cell BK232.out 1).trans rfl; have hcz27_2 : w21.cell? ⟨gb232, 2, none⟩ = some (.slice A0_2 l0_2.length c0_2) := (blk_cell BK232.out 2).trans rfl; have hcz27_3 : w21.cell? ⟨gb232, 3, none⟩ = some (.int .i64 a0_3) := (blk_cell BK232.out 3).trans rfl; have hcz27_4 : w21.cell? ⟨gb232, 4, none⟩ = some (.int .i64 a0_4) := (blk_cell BK232.out 4).trans rfl; have hfz27_0 := blk_frozen BK232.out 0; have hfz27_1 := blk_frozen BK232.out 1; have hfz27_2 := blk_frozen BK232.out 2; have hfz27_3 := blk_frozen BK232.out 3; have hfz27_4 := blk_frozen BK232.out 4) | ((with_reducible refine gate_callee (f := 12) rfl ?_); refine goesL_ (some 32) rfl rfl Try.func12 (by kernel_rfl) rfl #[.agg #[.slice A0_0 l0_0.length c0_0, .slice A0_1 l0_1.length c0_1, .slice A0_2 l0_2.length c0_2, .int .i64 a0_3, .int .i64 a0_4]] rfl (by (try simp only [List.map_toArray, List.map_cons, List.map_nil]); first | done | rfl | (simp only [List.length_drop, List.length_take]; rfl)) ?_; (with_reducible refine (laws_toMemory.calls kj4 _ _ l0_0 _ _ l0_1 _ _ l0_2 a0_3 a0_4 t258 t261 t264 t267 t268 _ ?side1 ?side2 ?side3 ?side4 ?side5 ?side6 A12.out).mono ?_); (case side1 => exact Kd.C_below HR0_0.out (by repeat (first | (with_reducible first | exact HB.out | apply below_alloc | apply pw_below_drewN | apply below_drew1 | refine below_set ?_ GE232.out | refine below_set ?_ GE257.out) | exact HB.out))); (case side2 => exact HC0_0.out); (case side3 => exact Kd.C_below HR0_1.out (by repeat (first | (with_reducible first | exact HB.out | apply below_alloc | apply pw_below_drewN | apply below_drew1 | refine below_set ?_ GE232.out | refine below_set ?_ GE257.out) | exact HB.out))); (case side4 => exact HC0_1.out); (case side5 => exact Kd.C_below HR0_2.out (by repeat (first | (with_reducible first | exact HB.out | apply below_alloc | apply pw_below_drewN | apply below_drew1 | refine below_set ?_ GE232.out | refine below_set ?_ GE257.out) | exact HB.out))); (case side6 => exact HC0_2.out); rintro e w28 ⟨v259, v262, v265, rfl, ho0, ho1, ho2, hb⟩; refine ⟨_, rfl, ?_⟩; have n0_ := Aside0.mk (Kd.R_elder' (by (with_reducible repeat (first | apply Kd.R_alloc | apply Kd.R_drewN | apply Kd.R_drew)); exact (Kd.R_mono (Kd.R_far (p := ⟨gb257, 4, none⟩) (Kd.R_far (p := ⟨gb257, 3, none⟩) (Kd.R_far (p := ⟨gb257, 2, none⟩) (Kd.R_far (p := ⟨gb257, 1, none⟩) (Kd.R_far (p := ⟨gb257, 0, none⟩) (Kd.R_types HO247.out BK257.out (by decide)) (fun _ hk => hk.2) (.slice Ao22 t245.length co22)) (fun _ hk => hk.2) (.slice Ao25 t248.length co25)) (fun _ hk => hk.2) (.slice Ao26 t251.length co26)) (fun _ hk => hk.2) (.int .i64 t254)) (fun _ hk => hk.2) (.int .i64 t255)) (fun _ h_ => h_.1))) (Kd.R_base ho0) hb); have n1_ := Aside0.mk (Kd.R_mono (Kd.R_told (Kd.R_told (Kd.R_old (by (with_reducible repeat (first | apply Kd.R_alloc | apply Kd.R_drewN | apply Kd.R_drew)); exact (Kd.R_mono (Kd.R_far (p := ⟨gb257, 4, none⟩) (Kd.R_far (p := ⟨gb257, 3, none⟩) (Kd.R_far (p := ⟨gb257, 2, none⟩) (Kd.R_far (p := ⟨gb257, 1, none⟩) (Kd.R_far (p := ⟨gb257, 0, none⟩) (Kd.R_types HO250.out BK257.out (by decide)) (fun _ hk => hk.2) (.slice Ao22 t245.length co22)) (fun _ hk => hk.2) (.slice Ao25 t248.length co25)) (fun _ hk => hk.2) (.slice Ao26 t251.length co26)) (fun _ hk => hk.2) (.int .i64 t254)) (fun _ hk => hk.2) (.int .i64 t255)) (fun _ h_ => h_.1))) hb) (Kd.R_base ho1)) (Kd.R_base ho2)) (fun _ h_ => h_.1)); have n2_ := Aside0.mk (Kd.R_mono (Kd.R_told (Kd.R_told (Kd.R_old (by (with_reducible repeat (first | apply Kd.R_alloc | apply Kd.R_drewN | apply Kd.R_drew)); exact (Kd.R_mono (Kd.R_far (p := ⟨gb257, 4, none⟩) (Kd.R_far (p := ⟨gb257, 3, none⟩) (Kd.R_far (p := ⟨gb257, 2, none⟩) (Kd.R_far (p := ⟨gb257, 1, none⟩) (Kd.R_far (p := ⟨gb257, 0, none⟩) (Kd.R_types HO253.out BK257.out (by decide)) (fun _ hk => hk.2) (.slice Ao22 t245.length co22)) (fun _ hk => hk.2) (.slice Ao25 t248.length co25)) (fun _ hk => hk.2) (.slice Ao26 t251.length co26)) (fun _ hk => hk.2) (.int .i64 t254)) (fun _ hk => hk.2) (.int .i64 t255)) (fun _ h_ => h_.1))) hb) (Kd.R_base ho1)) (Kd.R_base ho2)) (fun _ h_ => h_.1)); have n3_ := Aside0.mk (Kd.R_lower (Kd.R_new' ho0 (Kd.R_lt (by (with_reducible repeat (first | apply Kd.R_alloc | apply Kd.R_drewN | apply Kd.R_drew)); exact (Kd.R_mono (Kd.R_far (p := ⟨gb257, 4, none⟩) (Kd.R_far (p := ⟨gb257, 3, none⟩) (Kd.R_far (p := ⟨gb257, 2, none⟩) (Kd.R_far (p := ⟨gb257, 1, none⟩) (Kd.R_far (p := ⟨gb257, 0, none⟩) (Kd.R_types HO247.out BK257.out (by decide)) (fun _ hk => hk.2) (.slice Ao22 t245.length co22)) (fun _ hk => hk.2) (.slice Ao25 t248.length co25)) (fun _ hk => hk.2) (.slice Ao26 t251.length co26)) (fun _ hk => hk.2) (.int .i64 t254)) (fun _ hk => hk.2) (.int .i64 t255)) (fun _ h_ => h_.1))))) (below_size (by repeat (first | (with_reducible first | exact HB.out | apply below_alloc | apply pw_below_drewN | apply below_drew1 | refine below_set ?_ GE232.out | refine below_set ?_ GE257.out) | exact HB.out)))); have n4_ := Aside0.mk (Kd.R_lower (Kd.R_new' (Kd.R_new' ho1 (Kd.R_lt (by (with_reducible repeat (first | apply Kd.R_alloc | apply Kd.R_drewN | apply Kd.R_drew)); exact (Kd.R_mono (Kd.R_far (p := ⟨gb257, 4, none⟩) (Kd.R_far (p := ⟨gb257, 3, none⟩) (Kd.R_far (p := ⟨gb257, 2, none⟩) (Kd.R_far (p := ⟨gb257, 1, none⟩) (Kd.R_far (p := ⟨gb257, 0, none⟩) (Kd.R_types HO250.out BK257.out (by decide)) (fun _ hk => hk.2) (.slice Ao22 t245.length co22)) (fun _ hk => hk.2) (.slice Ao25 t248.length co25)) (fun _ hk => hk.2) (.slice Ao26 t251.length co26)) (fun _ hk => hk.2) (.int .i64 t254)) (fun _ hk => hk.2) (.int .i64 t255)) (fun _ h_ => h_.1))))) (Kd.R_lt (by (with_reducible repeat (first | apply Kd.R_alloc | apply Kd.R_drewN | apply Kd.R_drew)); exact (Kd.R_mono (Kd.R_far (p := ⟨gb257, 4, none⟩) (Kd.R_far (p := ⟨gb257, 3, none⟩) (Kd.R_far (p := ⟨gb257, 2, none⟩) (Kd.R_far (p := ⟨gb257, 1, none⟩) (Kd.R_far (p := ⟨gb257, 0, none⟩) (Kd.R_types HO253.out BK257.out (by decide)) (fun _ hk => hk.2) (.slice Ao22 t245.length co22)) (fun _ hk => hk.2) (.slice Ao25 t248.length co25)) (fun _ hk => hk.2) (.slice Ao26 t251.length co26)) (fun _ hk => hk.2) (.int .i64 t254)) (fun _ hk => hk.2) (.int .i64 t255)) (fun _ h_ => h_.1))))) (below_size (by repeat (first | (with_reducible first | exact HB.out | apply below_alloc | apply pw_below_drewN | apply below_drew1 | refine below_set ?_ GE232.out | refine below_set ?_ GE257.out) | exact HB.out)))); have n5_ := Aside0.mk (Kd.R_lower (Kd.R_new' (Kd.R_new' ho2 (Kd.R_lt (by (with_reducible repeat (first | apply Kd.R_alloc | apply Kd.R_drewN | apply Kd.R_drew)); exact (Kd.R_mono (Kd.R_far (p := ⟨gb257, 4, none⟩) (Kd.R_far (p := ⟨gb257, 3, none⟩) (Kd.R_far (p := ⟨gb257, 2, none⟩) (Kd.R_far (p := ⟨gb257, 1, none⟩) (Kd.R_far (p := ⟨gb257, 0, none⟩) (Kd.R_types HO250.out BK257.out (by decide)) (fun _ hk => hk.2) (.slice Ao22 t245.length co22)) (fun _ hk => hk.2) (.slice Ao25 t248.length co25)) (fun _ hk => hk.2) (.slice Ao26 t251.length co26)) (fun _ hk => hk.2) (.int .i64 t254)) (fun _ hk => hk.2) (.int .i64 t255)) (fun _ h_ => h_.1))))) (Kd.R_lt (by (with_reducible repeat (first | apply Kd.R_alloc | apply Kd.R_drewN | apply Kd.R_drew)); exact (Kd.R_mono (Kd.R_far (p := ⟨gb257, 4, none⟩) (Kd.R_far (p := ⟨gb257, 3, none⟩) (Kd.R_far (p := ⟨gb257, 2, none⟩) (Kd.R_far (p := ⟨gb257, 1, none⟩) (Kd.R_far (p := ⟨gb257, 0, none⟩) (Kd.R_types HO253.out BK257.out (by decide)) (fun _ hk => hk.2) (.slice Ao22 t245.length co22)) (fun _ hk => hk.2) (.slice Ao25 t248.length co25)) (fun _ hk => hk.2) (.slice Ao26 t251.length co26)) (fun _ hk => hk.2) (.int .i64 t254)) (fun _ hk => hk.2) (.int .i64 t255)) (fun _ h_ => h_.1))))) (below_size (by repeat (first | (with_reducible first | exact HB.out | apply below_alloc | apply pw_below_drewN | apply below_drew1 | refine below_set ?_ GE232.out | refine below_set ?_ GE257.out) | exact HB.out)))); have n6_ := Aside0.mk (blk_below (g := gb232) (o := .cells #[.slice A0_0 l0_0.length c0_0, .slice A0_1 l0_1.length c0_1, .slice A0_2 l0_2.length c0_2, .int .i64 a0_3, .int .i64 a0_4] 25 (0, 0)) (by (with_reducible repeat (first | refine blk_drewN ?_ _ | refine blk_drew ?_ | refine blk_alloc ?_ _)); refine blk_far ?_ NB232_257.out _; (with_reducible repeat (first | refine blk_drewN ?_ _ | refine blk_drew ?_ | refine blk_alloc ?_ _)); refine blk_far ?_ NB232_257.out _; (with_reducible repeat (first | refine blk_drewN ?_ _ | refine blk_drew ?_ | refine blk_alloc ?_ _)); refine blk_far ?_ NB232_257.out _; (with_reducible repeat (first | refine blk_drewN ?_ _ | refine blk_drew ?_ | refine blk_alloc ?_ _)); refine blk_far ?_ NB232_257.out _; (with_reducible repeat (first | refine blk_drewN ?_ _ | refine blk_drew ?_ | refine blk_alloc ?_ _)); refine blk_far ?_ NB232_257.out _; (with_reducible repeat (first | refine blk_drewN ?_ _ | refine blk_drew ?_ | refine blk_alloc ?_ _)); exact BK232.out) hb); have n7_ := Aside0.mk (blk_below (g := gb257) (o := .cells #[.slice Ao22 t245.length co22, .slice Ao25 t248.length co25, .slice Ao26 t251.length co26, .int .i64 t254, .int .i64 t255] 29 (0, 0)) (by (with_reducible repeat (first | refine blk_drewN ?_ _ | refine blk_drew ?_ | refine blk_alloc ?_ _)); refine blk_put (cs := #[.slice Ao22 t245.length co22, .slice Ao25 t248.length co25, .slice Ao26 t251.length co26, .int .i64 t254, .int .i64 0]) ?_ 4 _ rfl; (with_reducible repeat (first | refine blk_drewN ?_ _ | refine blk_drew ?_ | refine blk_alloc ?_ _)); refine blk_put (cs := #[.slice Ao22 t245.length co22, .slice Ao25 t248.length co25, .slice Ao26 t251.length co26, .int .i64 0, .int .i64 0]) ?_ 3 _ rfl; (with_reducible repeat (first | refine blk_drewN ?_ _ | refine blk_drew ?_ | refine blk_alloc ?_ _)); refine blk_put (cs := #[.slice Ao22 t245.length co22, .slice Ao25 t248.length co25, .slice none 0 0, .int .i64 0, .int .i64 0]) ?_ 2 _ rfl; (with_reducible repeat (first | refine blk_drewN ?_ _ | refine blk_drew ?_ | refine blk_alloc ?_ _)); refine blk_put (cs := #[.slice Ao22 t245.length co22, .slice none 0 0, .slice none 0 0, .int .i64 0, .int .i64 0]) ?_ 1 _ rfl; (with_reducible repeat (first | refine blk_drewN ?_ _ | refine blk_drew ?_ | refine blk_alloc ?_ _)); refine blk_put (cs := #[.slice none 0 0, .slice none 0 0, .slice none 0 0, .int .i64 0, .int .i64 0]) ?_ 0 _ rfl; (with_reducible repeat (first | refine blk_drewN ?_ _ | refine blk_drew ?_ | refine blk_alloc ?_ _)); exact BK257.out) hb); have n8_ := Aside0.mk (below_step (by repeat (first | (with_reducible first | exact HB.out | apply below_alloc | apply pw_below_drewN | apply below_drew1 | refine below_set ?_ GE232.out | refine below_set ?_ GE257.out) | exact HB.out)) hb); clear HO247; clear HO250; clear HO253; clear BK232; clear BK257; clear HB; have HO247 := n0_; have HO250 := n1_; have HO253 := n2_; have HO260 := n3_; have HO263 := n4_; have HO266 := n5_; have BK232 := n6_; have BK257 := n7_; have HB := n8_; clear n0_ n1_ n2_ n3_ n4_ n5_ n6_ n7_ n8_; (try clear hb); (try clear hb2); (try clear hk); (try clear hi); (try clear ho0); (try clear ho1); (try clear ho2)) | ((with_reducible refine gate_dst (N := 10) rfl ?_); refine box_event ?hg (N := 10) ?hd (cs := #[.slice none 0 0, .slice none 0 0, .slice none 0 0, .int .i64 0, .int .i64 0]) (t := 29) ?hr ?_; (case hd => rfl); (case hg => rfl); (case hr => first | (go_simp; done) | (go_simp; rfl)); intro gb269 hg w29 hbox hb; have n0_ := Aside0.mk (Kd.R_below (by (with_reducible repeat (first | apply Kd.R_alloc | apply Kd.R_drewN | apply Kd.R_drew)); exact HO247.out) hb); have n1_ := Aside0.mk (Kd.R_below (by (with_reducible repeat (first | apply Kd.R_alloc | apply Kd.R_drewN | apply Kd.R_drew)); exact HO250.out) hb); have n2_ := Aside0.mk (Kd.R_below (by (with_reducible repeat (first | apply Kd.R_alloc | apply Kd.R_drewN | apply Kd.R_drew)); exact HO253.out) hb); have n3_ := Aside0.mk (Kd.R_below (by (with_reducible repeat (first | apply Kd.R_alloc | apply Kd.R_drewN | apply Kd.R_drew)); exact HO260.out) hb); have n4_ := Aside0.mk (Kd.R_below (by (with_reducible repeat (first | apply Kd.R_alloc | apply Kd.R_drewN | apply Kd.R_drew)); exact HO263.out) hb); have n5_ := Aside0.mk (Kd.R_below (by (with_reducible repeat (first | apply Kd.R_alloc | apply Kd.R_drewN | apply Kd.R_drew)); exact HO266.out) hb); have n6_ := Aside0.mk (blk_below (g := gb232) (o := .cells #[.slice A0_0 l0_0.length c0_0, .slice A0_1 l0_1.length c0_1, .slice A0_2 l0_2.length c0_2, .int .i64 a0_3, .int .i64 a0_4] 25 (0, 0)) (by (with_reducible repeat (first | refine blk_drewN ?_ _ | refine blk_drew ?_ | refine blk_alloc ?_ _)); exact BK232.out) hb); have n7_ := Aside0.mk (blk_below (g := gb257) (o := .cells #[.slice Ao22 t245.length co22, .slice Ao25 t248.length co25, .slice Ao26 t251.length co26, .int .i64 t254, .int .i64 t255] 29 (0, 0)) (by (with_reducible repeat (first | refine blk_drewN ?_ _ | refine blk_drew ?_ | refine blk_alloc ?_ _)); exact BK257.out) hb); have n8_ := Aside0.mk (below_step (by repeat (first | (with_reducible first | exact HB.out | apply below_alloc | apply pw_below_drewN | apply below_drew1 | refine below_set ?_ GE232.out | refine below_set ?_ GE257.out) | exact HB.out)) hb); have n9_ := Aside0.mk (hbox); have n10_ := Aside0.mk ((by rw [hg]; exact (below_size (by repeat (first | (with_reducible first | exact HB.out | apply below_alloc | apply pw_below_drewN | apply below_drew1 | refine below_set ?_ GE232.out | refine below_set ?_ GE257.out) | exact HB.out))) : w.heap.size ≤ gb269)); have n11_ := Aside0.mk ((by rw [hg]; exact (below_size (by repeat (first | (with_reducible first | exact HB.out | apply below_alloc | apply pw_below_drewN | apply below_drew1 | refine below_set ?_ GE232.out | refine below_set ?_ GE257.out) | exact HB.out))) : w.heap.size ≤ gb269)); have n12_ := Aside0.mk ((by rw [hg]; exact Nat.ne_of_lt (blk_lt (g := gb232) (o := .cells #[.slice A0_0 l0_0.length c0_0, .slice A0_1 l0_1.length c0_1, .slice A0_2 l0_2.length c0_2, .int .i64 a0_3, .int .i64 a0_4] 25 (0, 0)) (by (with_reducible repeat (first | refine blk_drewN ?_ _ | refine blk_drew ?_ | refine blk_alloc ?_ _)); exact BK232.out)) : gb232 ≠ gb269)); have n13_ := Aside0.mk ((by rw [hg]; exact Nat.ne_of_gt (blk_lt (g := gb232) (o := .cells #[.slice A0_0 l0_0.length c0_0, .slice A0_1 l0_1.length c0_1, .slice A0_2 l0_2.length c0_2, .int .i64 a0_3, .int .i64 a0_4] 25 (0, 0)) (by (with_reducible repeat (first | refine blk_drewN ?_ _ | refine blk_drew ?_ | refine blk_alloc ?_ _)); exact BK232.out)) : gb269 ≠ gb232)); have n14_ := Aside0.mk ((by rw [hg]; exact Nat.ne_of_lt (blk_lt (g := gb257) (o := .cells #[.slice Ao22 t245.length co22, .slice Ao25 t248.length co25, .slice Ao26 t251.length co26, .int .i64 t254, .int .i64 t255] 29 (0, 0)) (by (with_reducible repeat (first | refine blk_drewN ?_ _ | refine blk_drew ?_ | refine blk_alloc ?_ _)); exact BK257.out)) : gb257 ≠ gb269)); have n15_ := Aside0.mk ((by rw [hg]; exact Nat.ne_of_gt (blk_lt (g := gb257) (o := .cells #[.slice Ao22 t245.length co22, .slice Ao25 t248.length co25, .slice Ao26 t251.length co26, .int .i64 t254, .int .i64 t255] 29 (0, 0)) (by (with_reducible repeat (first | refine blk_drewN ?_ _ | refine blk_drew ?_ | refine blk_alloc ?_ _)); exact BK257.out)) : gb269 ≠ gb257)); clear HO247; clear HO250; clear HO253; clear HO260; clear HO263; clear HO266; clear BK232; clear BK257; clear HB; have HO247 := n0_; have HO250 := n1_; have HO253 := n2_; have HO260 := n3_; have HO263 := n4_; have HO266 := n5_; have BK232 := n6_; have BK257 := n7_; have HB := n8_; have BK269 := n9_; have GW269 := n10_; have GE269 := n11_; have NB232_269 := n12_; have NB269_232 := n13_; have NB257_269 := n14_; have NB269_257 := n15_; clear n0_ n1_ n2_ n3_ n4_ n5_ n6_ n7_ n8_ n9_ n10_ n11_ n12_ n13_ n14_ n15_; clear hb hbox hg; obtain ⟨Ao30, co30, eo30⟩ := Kd.R_slice HO260.out; subst eo30; have hnb31 := NB269_232.out; have hnc31 := NB232_269.out; have hnb32 := NB269_257.out; have hnc32 := NB257_269.out; have hcz33_0 : w29.cell? ⟨gb269, 0, none⟩ = some (.slice none 0 0) := (blk_cell BK269.out 0).trans rfl; have hcz33_1 : w29.cell? ⟨gb269, 1, none⟩ = some (.slice none 0 0) := (blk_cell BK269.out 1).trans rfl; have hcz33_2 : w29.cell? ⟨gb269, 2, none⟩ = some (.slice none 0 0) := (blk_cell BK269.out 2).trans rfl; have hcz33_3 : w29.cell? ⟨gb269, 3, none⟩ = some (.int .i64 0) := (blk_cell BK269.out 3).trans rfl; have hcz33_4 : w29.cell? ⟨gb269, 4, none⟩ = some (.int .i64 0) := (blk_cell BK269.out 4).trans rfl; have hfz33_0 := blk_frozen BK269.out 0; have hfz33_1 := blk_frozen BK269.out 1; have hfz33_2 := blk_frozen BK269.out 2; have hfz33_3 := blk_frozen BK269.out 3; have hfz33_4 := blk_frozen BK269.out 4; obtain ⟨Ao34, co34, eo34⟩ := Kd.R_slice HO263.out; subst eo34; obtain ⟨Ao35, co35, eo35⟩ := Kd.R_slice HO266.out; subst eo35) | ((with_reducible refine gate_callee (f := 13) rfl ?_); refine goesL_ (some 37) rfl rfl Try.func13 (by kernel_rfl) rfl #[.agg #[.slice Ao30 t258.length co30, .slice Ao34 t261.length co34, .slice Ao35 t264.length co35, .int .i64 t267, .int .i64 t268], .int .i64 a1, .int .i64 a2] rfl (by (try simp only [List.map_toArray, List.map_cons, List.map_nil]); first | done | rfl | (simp only [List.length_drop, List.length_take]; rfl)) ?_; (with_reducible refine (impl_Summed.calls _ _ t258 _ _ t261 _ _ t264 t267 t268 a1 a2 t270 t273 t276 t279 t280 t281 _ ?side1 ?side2 ?side3 ?side4 ?side5 ?side6 A13.out).mono ?_); (case side1 => refine (Kd.R_reads' (e := 96) (base := w.heap.size) (ok := fun k_ => (True ∧ some k_ ≠ (.slice Ao22 t245.length co22 : Value).ownBlock)) (n := t258.length) (c := co30) ?_).2.2; exact (by (with_reducible repeat (first | apply Kd.R_alloc | apply Kd.R_drewN | apply Kd.R_drew)); exact (Kd.R_mono (Kd.R_far (p := ⟨gb269, 4, none⟩) (Kd.R_far (p := ⟨gb269, 3, none⟩) (Kd.R_far (p := ⟨gb269, 2, none⟩) (Kd.R_far (p := ⟨gb269, 1, none⟩) (Kd.R_far (p := ⟨gb269, 0, none⟩) (Kd.R_types HO260.out BK269.out (by decide)) (fun _ hk => hk.2) (.slice Ao30 t258.length co30)) (fun _ hk => hk.2) (.slice Ao34 t261.length co34)) (fun _ hk => hk.2) (.slice Ao35 t264.length co35)) (fun _ hk => hk.2) (.int .i64 t267)) (fun _ hk => hk.2) (.int .i64 t268)) (fun _ h_ => h_.1)))); (case side2 => exact (Kd.R_reads' HO260.out).2.1); (case side3 => refine (Kd.R_reads' (e := 3) (base := w.heap.size) (ok := fun k_ => ((some k_ ≠ (.slice Ao35 t264.length co35 : Value).ownBlock ∧ some k_ ≠ (.slice Ao25 t248.length co25 : Value).ownBlock) ∧ some k_ ≠ (.slice Ao26 t251.length co26 : Value).ownBlock)) (n := t261.length) (c := co34) ?_).2.2; exact (by (with_reducible repeat (first | apply Kd.R_alloc | apply Kd.R_drewN | apply Kd.R_drew)); exact (Kd.R_mono (Kd.R_far (p := ⟨gb269, 4, none⟩) (Kd.R_far (p := ⟨gb269, 3, none⟩) (Kd.R_far (p := ⟨gb269, 2, none⟩) (Kd.R_far (p := ⟨gb269, 1, none⟩) (Kd.R_far (p := ⟨gb269, 0, none⟩) (Kd.R_types HO263.out BK269.out (by decide)) (fun _ hk => hk.2) (.slice Ao30 t258.length co30)) (fun _ hk => hk.2) (.slice Ao34 t261.length co34)) (fun _ hk => hk.2) (.slice Ao35 t264.length co35)) (fun _ hk => hk.2) (.int .i64 t267)) (fun _ hk => hk.2) (.int .i64 t268)) (fun _ h_ => h_.1)))); (case side4 => exact (Kd.R_reads' HO263.out).2.1); (case side5 => refine (Kd.R_reads' (e := 3) (base := w.heap.size) (ok := fun k_ => ((some k_ ≠ (.slice Ao34 t261.length co34 : Value).ownBlock ∧ some k_ ≠ (.slice Ao25 t248.length co25 : Value).ownBlock) ∧ some k_ ≠ (.slice Ao26 t251.length co26 : Value).ownBlock)) (n := t264.length) (c := co35) ?_).2.2; exact (by (with_reducible repeat (first | apply Kd.R_alloc | apply Kd.R_drewN | apply Kd.R_drew)); exact (Kd.R_mono (Kd.R_far (p := ⟨gb269, 4, none⟩) (Kd.R_far (p := ⟨gb269, 3, none⟩) (Kd.R_far (p := ⟨gb269, 2, none⟩) (Kd.R_far (p := ⟨gb269, 1, none⟩) (Kd.R_far (p := ⟨gb269, 0, none⟩) (Kd.R_types HO266.out BK269.out (by decide)) (fun _ hk => hk.2) (.slice Ao30 t258.length co30)) (fun _ hk => hk.2) (.slice Ao34 t261.length co34)) (fun _ hk => hk.2) (.slice Ao35 t264.length co35)) (fun _ hk => hk.2) (.int .i64 t267)) (fun _ hk => hk.2) (.int .i64 t268)) (fun _ h_ => h_.1)))); (case side6 => exact (Kd.R_reads' HO266.out).2.1); rintro e w36 ⟨v271, v274, v277, rfl, ho0, ho1, ho2, hb⟩; refine ⟨_, rfl, ?_⟩; have n0_ := Aside0.mk (Kd.R_elder' (by (with_reducible repeat (first | apply Kd.R_alloc | apply Kd.R_drewN | apply Kd.R_drew)); exact (Kd.R_mono (Kd.R_far (p := ⟨gb269, 4, none⟩) (Kd.R_far (p := ⟨gb269, 3, none⟩) (Kd.R_far (p := ⟨gb269, 2, none⟩) (Kd.R_far (p := ⟨gb269, 1, none⟩) (Kd.R_far (p := ⟨gb269, 0, none⟩) (Kd.R_types HO247.out BK269.out (by decide)) (fun _ hk => hk.2) (.slice Ao30 t258.length co30)) (fun _ hk => hk.2) (.slice Ao34 t261.length co34)) (fun _ hk => hk.2) (.slice Ao35 t264.length co35)) (fun _ hk => hk.2) (.int .i64 t267)) (fun _ hk => hk.2) (.int .i64 t268)) (fun _ h_ => h_.1))) (Kd.R_base ho0) hb); have n1_ := Aside0.mk (Kd.R_mono (Kd.R_told (Kd.R_told (Kd.R_old (by (with_reducible repeat (first | apply Kd.R_alloc | apply Kd.R_drewN | apply Kd.R_drew)); exact (Kd.R_mono (Kd.R_far (p := ⟨gb269, 4, none⟩) (Kd.R_far (p := ⟨gb269, 3, none⟩) (Kd.R_far (p := ⟨gb269, 2, none⟩) (Kd.R_far (p := ⟨gb269, 1, none⟩) (Kd.R_far (p := ⟨gb269, 0, none⟩) (Kd.R_types HO250.out BK269.out (by decide)) (fun _ hk => hk.2) (.slice Ao30 t258.length co30)) (fun _ hk => hk.2) (.slice Ao34 t261.length co34)) (fun _ hk => hk.2) (.slice Ao35 t264.length co35)) (fun _ hk => hk.2) (.int .i64 t267)) (fun _ hk => hk.2) (.int .i64 t268)) (fun _ h_ => h_.1))) hb) (Kd.R_base ho1)) (Kd.R_base ho2)) (fun _ h_ => h_.1)); have n2_ := Aside0.mk (Kd.R_mono (Kd.R_told (Kd.R_told (Kd.R_old (by (with_reducible repeat (first | apply Kd.R_alloc | apply Kd.R_drewN | apply Kd.R_drew)); exact (Kd.R_mono (Kd.R_far (p := ⟨gb269, 4, none⟩) (Kd.R_far (p := ⟨gb269, 3, none⟩) (Kd.R_far (p := ⟨gb269, 2, none⟩) (Kd.R_far (p := ⟨gb269, 1, none⟩) (Kd.R_far (p := ⟨gb269, 0, none⟩) (Kd.R_types HO253.out BK269.out (by decide)) (fun _ hk => hk.2) (.slice Ao30 t258.length co30)) (fun _ hk => hk.2) (.slice Ao34 t261.length co34)) (fun _ hk => hk.2) (.slice Ao35 t264.length co35)) (fun _ hk => hk.2) (.int .i64 t267)) (fun _ hk => hk.2) (.int .i64 t268)) (fun _ h_ => h_.1))) hb) (Kd.R_base ho1)) (Kd.R_base ho2)) (fun _ h_ => h_.1)); have n3_ := Aside0.mk (Kd.R_elder' (by (with_reducible repeat (first | apply Kd.R_alloc | apply Kd.R_drewN | apply Kd.R_drew)); exact (Kd.R_mono (Kd.R_far (p := ⟨gb269, 4, none⟩) (Kd.R_far (p := ⟨gb269, 3, none⟩) (Kd.R_far (p := ⟨gb269, 2, none⟩) (Kd.R_far (p := ⟨gb269, 1, none⟩) (Kd.R_far (p := ⟨gb269, 0, none⟩) (Kd.R_types HO260.out BK269.out (by decide)) (fun _ hk => hk.2) (.slice Ao30 t258.length co30)) (fun _ hk => hk.2) (.slice Ao34 t261.length co34)) (fun _ hk => hk.2) (.slice Ao35 t264.length co35)) (fun _ hk => hk.2) (.int .i64 t267)) (fun _ hk => hk.2) (.int .i64 t268)) (fun _ h_ => h_.1))) (Kd.R_base ho0) hb); have n4_ := Aside0.mk (Kd.R_mono (Kd.R_told (Kd.R_told (Kd.R_old (by (with_reducible repeat (first | apply Kd.R_alloc | apply Kd.R_drewN | apply Kd.R_drew)); exact (Kd.R_mono (Kd.R_far (p := ⟨gb269, 4, none⟩) (Kd.R_far (p := ⟨gb269, 3, none⟩) (Kd.R_far (p := ⟨gb269, 2, none⟩) (Kd.R_far (p := ⟨gb269, 1, none⟩) (Kd.R_far (p := ⟨gb269, 0, none⟩) (Kd.R_types HO263.out BK269.out (by decide)) (fun _ hk => hk.2) (.slice Ao30 t258.length co30)) (fun _ hk => hk.2) (.slice Ao34 t261.length co34)) (fun _ hk => hk.2) (.slice Ao35 t264.length co35)) (fun _ hk => hk.2) (.int .i64 t267)) (fun _ hk => hk.2) (.int .i64 t268)) (fun _ h_ => h_.1))) hb) (Kd.R_base ho1)) (Kd.R_base ho2)) (fun _ h_ => h_.1)); have n5_ := Aside0.mk (Kd.R_mono (Kd.R_told (Kd.R_told (Kd.R_old (by (with_reducible repeat (first | apply Kd.R_alloc | apply Kd.R_drewN | apply Kd.R_drew)); exact (Kd.R_mono (Kd.R_far (p := ⟨gb269, 4, none⟩) (Kd.R_far (p := ⟨gb269, 3, none⟩) (Kd.R_far (p := ⟨gb269, 2, none⟩) (Kd.R_far (p := ⟨gb269, 1, none⟩) (Kd.R_far (p := ⟨gb269, 0, none⟩) (Kd.R_types HO266.out BK269.out (by decide)) (fun _ hk => hk.2) (.slice Ao30 t258.length co30)) (fun _ hk => hk.2) (.slice Ao34 t261.length co34)) (fun _ hk => hk.2) (.slice Ao35 t264.length co35)) (fun _ hk => hk.2) (.int .i64 t267)) (fun _ hk => hk.2) (.int .i64 t268)) (fun _ h_ => h_.1))) hb) (Kd.R_base ho1)) (Kd.R_base ho2)) (fun _ h_ => h_.1)); have n6_ := Aside0.mk (Kd.R_lower (Kd.R_new' (Kd.R_new' ho0 (Kd.R_lt (by (with_reducible repeat (first | apply Kd.R_alloc | apply Kd.R_drewN | apply Kd.R_drew)); exact (Kd.R_mono (Kd.R_far (p := ⟨gb269, 4, none⟩) (Kd.R_far (p := ⟨gb269, 3, none⟩) (Kd.R_far (p := ⟨gb269, 2, none⟩) (Kd.R_far (p := ⟨gb269, 1, none⟩) (Kd.R_far (p := ⟨gb269, 0, none⟩) (Kd.R_types HO247.out BK269.out (by decide)) (fun _ hk => hk.2) (.slice Ao30 t258.length co30)) (fun _ hk => hk.2) (.slice Ao34 t261.length co34)) (fun _ hk => hk.2) (.slice Ao35 t264.length co35)) (fun _ hk => hk.2) (.int .i64 t267)) (fun _ hk => hk.2) (.int .i64 t268)) (fun _ h_ => h_.1))))) (Kd.R_lt (by (with_reducible repeat (first | apply Kd.R_alloc | apply Kd.R_drewN | apply Kd.R_drew)); exact (Kd.R_mono (Kd.R_far (p := ⟨gb269, 4, none⟩) (Kd.R_far (p := ⟨gb269, 3, none⟩) (Kd.R_far (p := ⟨gb269, 2, none⟩) (Kd.R_far (p := ⟨gb269, 1, none⟩) (Kd.R_far (p := ⟨gb269, 0, none⟩) (Kd.R_types HO260.out BK269.out (by decide)) (fun _ hk => hk.2) (.slice Ao30 t258.length co30)) (fun _ hk => hk.2) (.slice Ao34 t261.length co34)) (fun _ hk => hk.2) (.slice Ao35 t264.length co35)) (fun _ hk => hk.2) (.int .i64 t267)) (fun _ hk => hk.2) (.int .i64 t268)) (fun _ h_ => h_.1))))) (below_size (by repeat (first | (with_reducible first | exact HB.out | apply below_alloc | apply pw_below_drewN | apply below_drew1 | refine below_set ?_ GE232.out | refine below_set ?_ GE257.out | refine below_set ?_ GE269.out) | exact HB.out)))); have n7_ := Aside0.mk (Kd.R_lower (Kd.R_new' (Kd.R_new' (Kd.R_new' (Kd.R_new' ho1 (Kd.R_lt (by (with_reducible repeat (first | apply Kd.R_alloc | apply Kd.R_drewN | apply Kd.R_drew)); exact (Kd.R_mono (Kd.R_far (p := ⟨gb269, 4, none⟩) (Kd.R_far (p := ⟨gb269, 3, none⟩) (Kd.R_far (p := ⟨gb269, 2, none⟩) (Kd.R_far (p := ⟨gb269, 1, none⟩) (Kd.R_far (p := ⟨gb269, 0, none⟩) (Kd.R_types HO250.out BK269.out (by decide)) (fun _ hk => hk.2) (.slice Ao30 t258.length co30)) (fun _ hk => hk.2) (.slice Ao34 t261.length co34)) (fun _ hk => hk.2) (.slice Ao35 t264.length co35)) (fun _ hk => hk.2) (.int .i64 t267)) (fun _ hk => hk.2) (.int .i64 t268)) (fun _ h_ => h_.1))))) (Kd.R_lt (by (with_reducible repeat (first | apply Kd.R_alloc | apply Kd.R_drewN | apply Kd.R_drew)); exact (Kd.R_mono (Kd.R_far (p := ⟨gb269, 4, none⟩) (Kd.R_far (p := ⟨gb269, 3, none⟩) (Kd.R_far (p := ⟨gb269, 2, none⟩) (Kd.R_far (p := ⟨gb269, 1, none⟩) (Kd.R_far (p := ⟨gb269, 0, none⟩) (Kd.R_types HO253.out BK269.out (by decide)) (fun _ hk => hk.2) (.slice Ao30 t258.length co30)) (fun _ hk => hk.2) (.slice Ao34 t261.length co34)) (fun _ hk => hk.2) (.slice Ao35 t264.length co35)) (fun _ hk => hk.2) (.int .i64 t267)) (fun _ hk => hk.2) (.int .i64 t268)) (fun _ h_ => h_.1))))) (Kd.R_lt (by (with_reducible repeat (first | apply Kd.R_alloc | apply Kd.R_drewN | apply Kd.R_drew)); exact (Kd.R_mono (Kd.R_far (p := ⟨gb269, 4, none⟩) (Kd.R_far (p := ⟨gb269, 3, none⟩) (Kd.R_far (p := ⟨gb269, 2, none⟩) (Kd.R_far (p := ⟨gb269, 1, none⟩) (Kd.R_far (p := ⟨gb269, 0, none⟩) (Kd.R_types HO263.out BK269.out (by decide)) (fun _ hk => hk.2) (.slice Ao30 t258.length co30)) (fun _ hk => hk.2) (.slice Ao34 t261.length co34)) (fun _ hk => hk.2) (.slice Ao35 t264.length co35)) (fun _ hk => hk.2) (.int .i64 t267)) (fun _ hk => hk.2) (.int .i64 t268)) (fun _ h_ => h_.1))))) (Kd.R_lt (by (with_reducible repeat (first | apply Kd.R_alloc | apply Kd.R_drewN | apply Kd.R_drew)); exact (Kd.R_mono (Kd.R_far (p := ⟨gb269, 4, none⟩) (Kd.R_far (p := ⟨gb269, 3, none⟩) (Kd.R_far (p := ⟨gb269, 2, none⟩) (Kd.R_far (p := ⟨gb269, 1, none⟩) (Kd.R_far (p := ⟨gb269, 0, none⟩) (Kd.R_types HO266.out BK269.out (by decide)) (fun _ hk => hk.2) (.slice Ao30 t258.length co30)) (fun _ hk => hk.2) (.slice Ao34 t261.length co34)) (fun _ hk => hk.2) (.slice Ao35 t264.length co35)) (fun _ hk => hk.2) (.int .i64 t267)) (fun _ hk => hk.2) (.int .i64 t268)) (fun _ h_ => h_.1))))) (below_size (by repeat (first | (with_reducible first | exact HB.out | apply below_alloc | apply pw_below_drewN | apply below_drew1 | refine below_set ?_ GE232.out | refine below_set ?_ GE257.out | refine below_set ?_ GE269.out) | exact HB.out)))); have n8_ := Aside0.mk (Kd.R_lower (Kd.R_new' (Kd.R_new' (Kd.R_new' (Kd.R_new' ho2 (Kd.R_lt (by (with_reducible repeat (first | apply Kd.R_alloc | apply Kd.R_drewN | apply Kd.R_drew)); exact (Kd.R_mono (Kd.R_far (p := ⟨gb269, 4, none⟩) (Kd.R_far (p := ⟨gb269, 3, none⟩) (Kd.R_far (p := ⟨gb269, 2, none⟩) (Kd.R_far (p := ⟨gb269, 1, none⟩) (Kd.R_far (p := ⟨gb269, 0, none⟩) (Kd.R_types HO250.out BK269.out (by decide)) (fun _ hk => hk.2) (.slice Ao30 t258.length co30)) (fun _ hk => hk.2) (.slice Ao34 t261.length co34)) (fun _ hk => hk.2) (.slice Ao35 t264.length co35)) (fun _ hk => hk.2) (.int .i64 t267)) (fun _ hk => hk.2) (.int .i64 t268)) (fun _ h_ => h_.1))))) (Kd.R_lt (by (with_reducible repeat (first | apply Kd.R_alloc | apply Kd.R_drewN | apply Kd.R_drew)); exact (Kd.R_mono (Kd.R_far (p := ⟨gb269, 4, none⟩) (Kd.R_far (p := ⟨gb269, 3, none⟩) (Kd.R_far (p := ⟨gb269, 2, none⟩) (Kd.R_far (p := ⟨gb269, 1, none⟩) (Kd.R_far (p := ⟨gb269, 0, none⟩) (Kd.R_types HO253.out BK269.out (by decide)) (fun _ hk => hk.2) (.slice Ao30 t258.length co30)) (fun _ hk => hk.2) (.slice Ao34 t261.length co34)) (fun _ hk => hk.2) (.slice Ao35 t264.length co35)) (fun _ hk => hk.2) (.int .i64 t267)) (fun _ hk => hk.2) (.int .i64 t268)) (fun _ h_ => h_.1))))) (Kd.R_lt (by (with_reducible repeat (first | apply Kd.R_alloc | apply Kd.R_drewN | apply Kd.R_drew)); exact (Kd.R_mono (Kd.R_far (p := ⟨gb269, 4, none⟩) (Kd.R_far (p := ⟨gb269, 3, none⟩) (Kd.R_far (p := ⟨gb269, 2, none⟩) (Kd.R_far (p := ⟨gb269, 1, none⟩) (Kd.R_far (p := ⟨gb269, 0, none⟩) (Kd.R_types HO263.out BK269.out (by decide)) (fun _ hk => hk.2) (.slice Ao30 t258.length co30)) (fun _ hk => hk.2) (.slice Ao34 t261.length co34)) (fun _ hk => hk.2) (.slice Ao35 t264.length co35)) (fun _ hk => hk.2) (.int .i64 t267)) (fun _ hk => hk.2) (.int .i64 t268)) (fun _ h_ => h_.1))))) (Kd.R_lt (by (with_reducible repeat (first | apply Kd.R_alloc | apply Kd.R_drewN | apply Kd.R_drew)); exact (Kd.R_mono (Kd.R_far (p := ⟨gb269, 4, none⟩) (Kd.R_far (p := ⟨gb269, 3, none⟩) (Kd.R_far (p := ⟨gb269, 2, none⟩) (Kd.R_far (p := ⟨gb269, 1, none⟩) (Kd.R_far (p := ⟨gb269, 0, none⟩) (Kd.R_types HO266.out BK269.out (by decide)) (fun _ hk => hk.2) (.slice Ao30 t258.length co30)) (fun _ hk => hk.2) (.slice Ao34 t261.length co34)) (fun _ hk => hk.2) (.slice Ao35 t264.length co35)) (fun _ hk => hk.2) (.int .i64 t267)) (fun _ hk => hk.2) (.int .i64 t268)) (fun _ h_ => h_.1))))) (below_size (by repeat (first | (with_reducible first | exact HB.out | apply below_alloc | apply pw_below_drewN | apply below_drew1 | refine below_set ?_ GE232.out | refine below_set ?_ GE257.out | refine below_set ?_ GE269.out) | exact HB.out)))); have n9_ := Aside0.mk (blk_below (g := gb232) (o := .cells #[.slice A0_0 l0_0.length c0_0, .slice A0_1 l0_1.length c0_1, .slice A0_2 l0_2.length c0_2, .int .i64 a0_3, .int .i64 a0_4] 25 (0, 0)) (by (with_reducible repeat (first | refine blk_drewN ?_ _ | refine blk_drew ?_ | refine blk_alloc ?_ _)); refine blk_far ?_ NB232_269.out _; (with_reducible repeat (first | refine blk_drewN ?_ _ | refine blk_drew ?_ | refine blk_alloc ?_ _)); refine blk_far ?_ NB232_269.out _; (with_reducible repeat (first | refine blk_drewN ?_ _ | refine blk_drew ?_ | refine blk_alloc ?_ _)); refine blk_far ?_ NB232_269.out _; (with_reducible repeat (first | refine blk_drewN ?_ _ | refine blk_drew ?_ | refine blk_alloc ?_ _)); refine blk_far ?_ NB232_269.out _; (with_reducible repeat (first | refine blk_drewN ?_ _ | refine blk_drew ?_ | refine blk_alloc ?_ _)); refine blk_far ?_ NB232_269.out _; (with_reducible repeat (first | refine blk_drewN ?_ _ | refine blk_drew ?_ | refine blk_alloc ?_ _)); exact BK232.out) hb); have n10_ := Aside0.mk (blk_below (g := gb257) (o := .cells #[.slice Ao22 t245.length co22, .slice Ao25 t248.length co25, .slice Ao26 t251.length co26, .int .i64 t254, .int .i64 t255] 29 (0, 0)) (by (with_reducible repeat (first | refine blk_drewN ?_ _ | refine blk_drew ?_ | refine blk_alloc ?_ _)); refine blk_far ?_ NB257_269.out _; (with_reducible repeat (first | refine blk_drewN ?_ _ | refine blk_drew ?_ | refine blk_alloc ?_ _)); refine blk_far ?_ NB257_269.out _; (with_reducible repeat (first | refine blk_drewN ?_ _ | refine blk_drew ?_ | refine blk_alloc ?_ _)); refine blk_far ?_ NB257_269.out _; (with_reducible repeat (first | refine blk_drewN ?_ _ | refine blk_drew ?_ | refine blk_alloc ?_ _)); refine blk_far ?_ NB257_269.out _; (with_reducible repeat (first | refine blk_drewN ?_ _ | refine blk_drew ?_ | refine blk_alloc ?_ _)); refine blk_far ?_ NB257_269.out _; (with_reducible repeat (first | refine blk_drewN ?_ _ | refine blk_drew ?_ | refine blk_alloc ?_ _)); exact BK257.out) hb); have n11_ := Aside0.mk (blk_below (g := gb269) (o := .cells #[.slice Ao30 t258.length co30, .slice Ao34 t261.length co34, .slice Ao35 t264.length co35, .int .i64 t267, .int .i64 t268] 29 (0, 0)) (by (with_reducible repeat (first | refine blk_drewN ?_ _ | refine blk_drew ?_ | refine blk_alloc ?_ _)); refine blk_put (cs := #[.slice Ao30 t258.length co30, .slice Ao34 t261.length co34, .slice Ao35 t264.length co35, .int .i64 t267, .int .i64 0]) ?_ 4 _ rfl; (with_reducible repeat (first | refine blk_drewN ?_ _ | refine blk_drew ?_ | refine blk_alloc ?_ _)); refine blk_put (cs := #[.slice Ao30 t258.length co30, .slice Ao34 t261.length co34, .slice Ao35 t264.length co35, .int .i64 0, .int .i64 0]) ?_ 3 _ rfl; (with_reducible repeat (first | refine blk_drewN ?_ _ | refine blk_drew ?_ | refine blk_alloc ?_ _)); refine blk_put (cs := #[.slice Ao30 t258.length co30, .slice Ao34 t261.length co34, .slice none 0 0, .int .i64 0, .int .i64 0]) ?_ 2 _ rfl; (with_reducible repeat (first | refine blk_drewN ?_ _ | refine blk_drew ?_ | refine blk_alloc ?_ _)); refine blk_put (cs := #[.slice Ao30 t258.length co30, .slice none 0 0, .slice none 0 0, .int .i64 0, .int .i64 0]) ?_ 1 _ rfl; (with_reducible repeat (first | refine blk_drewN ?_ _ | refine blk_drew ?_ | refine blk_alloc ?_ _)); refine blk_put (cs := #[.slice none 0 0, .slice none 0 0, .slice none 0 0, .int .i64 0, .int .i64 0]) ?_ 0 _ rfl; (with_reducible repeat (first | refine blk_drewN ?_ _ | refine blk_drew ?_ | refine blk_alloc ?_ _)); exact BK269.out) hb); have n12_ := Aside0.mk (below_step (by repeat (first | (with_reducible first | exact HB.out | apply below_alloc | apply pw_below_drewN | apply below_drew1 | refine below_set ?_ GE232.out | refine below_set ?_ GE257.out | refine below_set ?_ GE269.out) | exact HB.out)) hb); clear HO247; clear HO250; clear HO253; clear HO260; clear HO263; clear HO266; clear BK232; clear BK257; clear BK269; clear HB; have HO247 := n0_; have HO250 := n1_; have HO253 := n2_; have HO260 := n3_; have HO263 := n4_; have HO266 := n5_; have HO272 := n6_; have HO275 := n7_; have HO278 := n8_; have BK232 := n9_; have BK257 := n10_; have BK269 := n11_; have HB := n12_; clear n0_ n1_ n2_ n3_ n4_ n5_ n6_ n7_ n8_ n9_ n10_ n11_ n12_; (try clear hb); (try clear hb2); (try clear hk); (try clear hi); (try clear ho0); (try clear ho1); (try clear ho2)) | ((with_reducible refine gate_dst (N := 11) rfl ?_); refine box_event ?hg (N := 11) ?hd (cs := #[.slice none 0 0, .slice none 0 0, .slice none 0 0, .int .i64 0, .int .i64 0]) (t := 29) ?hr ?_; (case hd => rfl); (case hg => rfl); (case hr => first | (go_simp; done) | (go_simp; rfl)); intro gb282 hg w37 hbox hb; have n0_ := Aside0.mk (Kd.R_below (by (with_reducible repeat (first | apply Kd.R_alloc | apply Kd.R_drewN | apply Kd.R_drew)); exact HO247.out) hb); have n1_ := Aside0.mk (Kd.R_below (by (with_reducible repeat (first | apply Kd.R_alloc | apply Kd.R_drewN | apply Kd.R_drew)); exact HO250.out) hb); have n2_ := Aside0.mk (Kd.R_below (by (with_reducible repeat (first | apply Kd.R_alloc | apply Kd.R_drewN | apply Kd.R_drew)); exact HO253.out) hb); have n3_ := Aside0.mk (Kd.R_below (by (with_reducible repeat (first | apply Kd.R_alloc | apply Kd.R_drewN | apply Kd.R_drew)); exact HO260.out) hb); have n4_ := Aside0.mk (Kd.R_below (by (with_reducible repeat (first | apply Kd.R_alloc | apply Kd.R_drewN | apply Kd.R_drew)); exact HO263.out) hb); have n5_ := Aside0.mk (Kd.R_below (by (with_reducible repeat (first | apply Kd.R_alloc | apply Kd.R_drewN | apply Kd.R_drew)); exact HO266.out) hb); have n6_ := Aside0.mk (Kd.R_below (by (with_reducible repeat (first | apply Kd.R_alloc | apply Kd.R_drewN | apply Kd.R_drew)); exact HO272.out) hb); have n7_ := Aside0.mk (Kd.R_below (by (with_reducible repeat (first | apply Kd.R_alloc | apply Kd.R_drewN | apply Kd.R_drew)); exact HO275.out) hb); have n8_ := Aside0.mk (Kd.R_below (by (with_reducible repeat (first | apply Kd.R_alloc | apply Kd.R_drewN | apply Kd.R_drew)); exact HO278.out) hb); have n9_ := Aside0.mk (blk_below (g := gb232) (o := .cells #[.slice A0_0 l0_0.length c0_0, .slice A0_1 l0_1.length c0_1, .slice A0_2 l0_2.length c0_2, .int .i64 a0_3, .int .i64 a0_4] 25 (0, 0)) (by (with_reducible repeat (first | refine blk_drewN ?_ _ | refine blk_drew ?_ | refine blk_alloc ?_ _)); exact BK232.out) hb); have n10_ := Aside0.mk (blk_below (g := gb257) (o := .cells #[.slice Ao22 t245.length co22, .slice Ao25 t248.length co25, .slice Ao26 t251.length co26, .int .i64 t254, .int .i64 t255] 29 (0, 0)) (by (with_reducible repeat (first | refine blk_drewN ?_ _ | refine blk_drew ?_ | refine blk_alloc ?_ _)); exact BK257.out) hb); have n11_ := Aside0.mk (blk_below (g := gb269) (o := .cells #[.slice Ao30 t258.length co30, .slice Ao34 t261.length co34, .slice Ao35 t264.length co35, .int .i64 t267, .int .i64 t268] 29 (0, 0)) (by (with_reducible repeat (first | refine blk_drewN ?_ _ | refine blk_drew ?_ | refine blk_alloc ?_ _)); exact BK269.out) hb); have n12_ := Aside0.mk (below_step (by repeat (first | (with_reducible first | exact HB.out | apply below_alloc | apply pw_below_drewN | apply below_drew1 | refine below_set ?_ GE232.out | refine below_set ?_ GE257.out | refine below_set ?_ GE269.out) | exact HB.out)) hb); have n13_ := Aside0.mk (hbox); have n14_ := Aside0.mk ((by rw [hg]; exact (below_size (by repeat (first | (with_reducible first | exact HB.out | apply below_alloc | apply pw_below_drewN | apply below_drew1 | refine below_set ?_ GE232.out | refine below_set ?_ GE257.out | refine below_set ?_ GE269.out) | exact HB.out))) : w.heap.size ≤ gb282)); have n15_ := Aside0.mk ((by rw [hg]; exact (below_size (by repeat (first | (with_reducible first | exact HB.out | apply below_alloc | apply pw_below_drewN | apply below_drew1 | refine below_set ?_ GE232.out | refine below_set ?_ GE257.out | refine below_set ?_ GE269.out) | exact HB.out))) : w.heap.size ≤ gb282)); have n16_ := Aside0.mk ((by rw [hg]; exact Nat.ne_of_lt (blk_lt (g := gb232) (o := .cells #[.slice A0_0 l0_0.length c0_0, .slice A0_1 l0_1.length c0_1, .slice A0_2 l0_2.length c0_2, .int .i64 a0_3, .int .i64 a0_4] 25 (0, 0)) (by (with_reducible repeat (first | refine blk_drewN ?_ _ | refine blk_drew ?_ | refine blk_alloc ?_ _)); exact BK232.out)) : gb232 ≠ gb282)); have n17_ := Aside0.mk ((by rw [hg]; exact Nat.ne_of_gt (blk_lt (g := gb232) (o := .cells #[.slice A0_0 l0_0.length c0_0, .slice A0_1 l0_1.length c0_1, .slice A0_2 l0_2.length c0_2, .int .i64 a0_3, .int .i64 a0_4] 25 (0, 0)) (by (with_reducible repeat (first | refine blk_drewN ?_ _ | refine blk_drew ?_ | refine blk_alloc ?_ _)); exact BK232.out)) : gb282 ≠ gb232)); have n18_ := Aside0.mk ((by rw [hg]; exact Nat.ne_of_lt (blk_lt (g := gb257) (o := .cells #[.slice Ao22 t245.length co22, .slice Ao25 t248.length co25, .slice Ao26 t251.length co26, .int .i64 t254, .int .i64 t255] 29 (0, 0)) (by (with_reducible repeat (first | refine blk_drewN ?_ _ | refine blk_drew ?_ | refine blk_alloc ?_ _)); exact BK257.out)) : gb257 ≠ gb282)); have n19_ := Aside0.mk ((by rw [hg]; exact Nat.ne_of_gt (blk_lt (g := gb257) (o := .cells #[.slice Ao22 t245.length co22, .slice Ao25 t248.length co25, .slice Ao26 t251.length co26, .int .i64 t254, .int .i64 t255] 29 (0, 0)) (by (with_reducible repeat (first | refine blk_drewN ?_ _ | refine blk_drew ?_ | refine blk_alloc ?_ _)); exact BK257.out)) : gb282 ≠ gb257)); have n20_ := Aside0.mk ((by rw [hg]; exact Nat.ne_of_lt (blk_lt (g := gb269) (o := .cells #[.slice Ao30 t258.length co30, .slice Ao34 t261.length co34, .slice Ao35 t264.length co35, .int .i64 t267, .int .i64 t268] 29 (0, 0)) (by (with_reducible repeat (first | refine blk_drewN ?_ _ | refine blk_drew ?_ | refine blk_alloc ?_ _)); exact BK269.out)) : gb269 ≠ gb282)); have n21_ := Aside0.mk ((by rw [hg]; exact Nat.ne_of_gt (blk_lt (g := gb269) (o := .cells #[.slice Ao30 t258.length co30, .slice Ao34 t261.length co34, .slice Ao35 t264.length co35, .int .i64 t267, .int .i64 t268] 29 (0, 0)) (by (with_reducible repeat (first | refine blk_drewN ?_ _ | refine blk_drew ?_ | refine blk_alloc ?_ _)); exact BK269.out)) : gb282 ≠ gb269)); clear HO247; clear HO250; clear HO253; clear HO260; clear HO263; clear HO266; clear HO272; clear HO275; clear HO278; clear BK232; clear BK257; clear BK269; clear HB; have HO247 := n0_; have HO250 := n1_; have HO253 := n2_; have HO260 := n3_; have HO263 := n4_; have HO266 := n5_; have HO272 := n6_; have HO275 := n7_; have HO278 := n8_; have BK232 := n9_; have BK257 := n10_; have BK269 := n11_; have HB := n12_; have BK282 := n13_; have GW282 := n14_; have GE282 := n15_; have NB232_282 := n16_; have NB282_232 := n17_; have NB257_282 := n18_; have NB282_257 := n19_; have NB269_282 := n20_; have NB282_269 := n21_; clear n0_ n1_ n2_ n3_ n4_ n5_ n6_ n7_ n8_ n9_ n10_ n11_ n12_ n13_ n14_ n15_ n16_ n17_ n18_ n19_ n20_ n21_; clear hb hbox hg; obtain ⟨Ao38, co38, eo38⟩ := Kd.R_slice HO272.out; subst eo38; have hnb39 := NB282_232.out; have hnc39 := NB232_282.out; have hnb40 := NB282_257.out; have hnc40 := NB257_282.out; have hnb41 := NB282_269.out; have hnc41 := NB269_282.out; have hcz42_0 : w37.cell? ⟨gb282, 0, none⟩ = some (.slice none 0 0) := (blk_cell BK282.out 0).trans rfl; have hcz42_1 : w37.cell? ⟨gb282, 1, none⟩ = some (.slice none 0 0) := (blk_cell BK282.out 1).trans rfl; have hcz42_2 : w37.cell? ⟨gb282, 2, none⟩ = some (.slice none 0 0) := (blk_cell BK282.out 2).trans rfl; have hcz42_3 : w37.cell? ⟨gb282, 3, none⟩ = some (.int .i64 0) := (blk_cell BK282.out 3).trans rfl; have hcz42_4 : w37.cell? ⟨gb282, 4, none⟩ = some (.int .i64 0) := (blk_cell BK282.out 4).trans rfl; have hfz42_0 := blk_frozen BK282.out 0; have hfz42_1 := blk_frozen BK282.out 1; have hfz42_2 := blk_frozen BK282.out 2; have hfz42_3 := blk_frozen BK282.out 3; have hfz42_4 := blk_frozen BK282.out 4; obtain ⟨Ao43, co43, eo43⟩ := Kd.R_slice HO275.out; subst eo43; obtain ⟨Ao44, co44, eo44⟩ := Kd.R_slice HO278.out; subst eo44))
   (try simp only [Act.put, List.setIfInBounds_toArray, List.set_cons_zero, List.set_cons_succ])
   go_cut [48] (fun v48 wc => ∃ (kq : Nat) (x48_13 : Bool), v48 = .bool x48_13 ∧ Aside0 (laws_FnExactSummed.j1 kq a1 a2 t256 t281 x48_13 l0_0 l0_1 l0_2 a0_3 a0_4 t245 t248 t251 t254 t255 t258 t261 t264 t267 t268 t270 t273 t276 t279 t280 = some r) ∧ Aside0 (kq ≤ kj4) ∧ Aside0 (Kd.R k96 96 wc w.heap.size (fun k_ => some k_ ≠ ((.slice Ao30 t258.length co30) : Value).ownBlock ∧ some k_ ≠ ((.slice Ao38 t270.length co38) : Value).ownBlock) (.slice Ao22 t245.length co22) t245) ∧ Aside0 (Kd.R (Kd.int .i64) 3 wc w.heap.size (fun k_ => some k_ ≠ ((.slice Ao26 t251.length co26) : Value).ownBlock ∧ some k_ ≠ ((.slice Ao34 t261.length co34) : Value).ownBlock ∧ some k_ ≠ ((.slice Ao35 t264.length co35) : Value).ownBlock ∧ some k_ ≠ ((.slice Ao43 t273.length co43) : Value).ownBlock ∧ some k_ ≠ ((.slice Ao44 t276.length co44) : Value).ownBlock) (.slice Ao25 t248.length co25) t248) ∧ Aside0 (Kd.R (Kd.int .i64) 3 wc w.heap.size (fun k_ => some k_ ≠ ((.slice Ao25 t248.length co25) : Value).ownBlock ∧ some k_ ≠ ((.slice Ao34 t261.length co34) : Value).ownBlock ∧ some k_ ≠ ((.slice Ao35 t264.length co35) : Value).ownBlock ∧ some k_ ≠ ((.slice Ao43 t273.length co43) : Value).ownBlock ∧ some k_ ≠ ((.slice Ao44 t276.length co44) : Value).ownBlock) (.slice Ao26 t251.length co26) t251) ∧ Aside0 (Kd.R k96 96 wc w.heap.size (fun k_ => some k_ ≠ ((.slice Ao22 t245.length co22) : Value).ownBlock ∧ some k_ ≠ ((.slice Ao38 t270.length co38) : Value).ownBlock) (.slice Ao30 t258.length co30) t258) ∧ Aside0 (Kd.R (Kd.int .i64) 3 wc w.heap.size (fun k_ => some k_ ≠ ((.slice Ao25 t248.length co25) : Value).ownBlock ∧ some k_ ≠ ((.slice Ao26 t251.length co26) : Value).ownBlock ∧ some k_ ≠ ((.slice Ao35 t264.length co35) : Value).ownBlock ∧ some k_ ≠ ((.slice Ao43 t273.length co43) : Value).ownBlock ∧ some k_ ≠ ((.slice Ao44 t276.length co44) : Value).ownBlock) (.slice Ao34 t261.length co34) t261) ∧ Aside0 (Kd.R (Kd.int .i64) 3 wc w.heap.size (fun k_ => some k_ ≠ ((.slice Ao25 t248.length co25) : Value).ownBlock ∧ some k_ ≠ ((.slice Ao26 t251.length co26) : Value).ownBlock ∧ some k_ ≠ ((.slice Ao34 t261.length co34) : Value).ownBlock ∧ some k_ ≠ ((.slice Ao43 t273.length co43) : Value).ownBlock ∧ some k_ ≠ ((.slice Ao44 t276.length co44) : Value).ownBlock) (.slice Ao35 t264.length co35) t264) ∧ Aside0 (Kd.R k96 96 wc w.heap.size (fun k_ => some k_ ≠ ((.slice Ao22 t245.length co22) : Value).ownBlock ∧ some k_ ≠ ((.slice Ao30 t258.length co30) : Value).ownBlock) (.slice Ao38 t270.length co38) t270) ∧ Aside0 (Kd.R (Kd.int .i64) 3 wc w.heap.size (fun k_ => some k_ ≠ ((.slice Ao25 t248.length co25) : Value).ownBlock ∧ some k_ ≠ ((.slice Ao26 t251.length co26) : Value).ownBlock ∧ some k_ ≠ ((.slice Ao34 t261.length co34) : Value).ownBlock ∧ some k_ ≠ ((.slice Ao35 t264.length co35) : Value).ownBlock ∧ some k_ ≠ ((.slice Ao44 t276.length co44) : Value).ownBlock) (.slice Ao43 t273.length co43) t273) ∧ Aside0 (Kd.R (Kd.int .i64) 3 wc w.heap.size (fun k_ => some k_ ≠ ((.slice Ao25 t248.length co25) : Value).ownBlock ∧ some k_ ≠ ((.slice Ao26 t251.length co26) : Value).ownBlock ∧ some k_ ≠ ((.slice Ao34 t261.length co34) : Value).ownBlock ∧ some k_ ≠ ((.slice Ao35 t264.length co35) : Value).ownBlock ∧ some k_ ≠ ((.slice Ao43 t273.length co43) : Value).ownBlock) (.slice Ao44 t276.length co44) t276) ∧ Aside0 (wc.heap[gb232]? = some (.cells #[(.slice A0_0 l0_0.length c0_0), (.slice A0_1 l0_1.length c0_1), (.slice A0_2 l0_2.length c0_2), .int .i64 a0_3, .int .i64 a0_4] 25 (0, 0))) ∧ Aside0 (wc.heap[gb257]? = some (.cells #[(.slice Ao22 t245.length co22), (.slice Ao25 t248.length co25), (.slice Ao26 t251.length co26), .int .i64 t254, .int .i64 t255] 29 (0, 0))) ∧ Aside0 (wc.heap[gb269]? = some (.cells #[(.slice Ao30 t258.length co30), (.slice Ao34 t261.length co34), (.slice Ao35 t264.length co35), .int .i64 t267, .int .i64 t268] 29 (0, 0))) ∧ Aside0 (wc.heap[gb282]? = some (.cells #[(.slice Ao38 t270.length co38), (.slice Ao43 t273.length co43), (.slice Ao44 t276.length co44), .int .i64 t279, .int .i64 t280] 29 (0, 0))) ∧ Aside0 (Below w.heap.size w wc))
   case first =>
    have H := HC14.out
    clear HC14
    replace H := Option.bind_eq_some_iff.mp H
    obtain ⟨t283, A450, H⟩ := H
    replace H : (if t283 = true then (laws_FnExactSummed.j1 kj4 a1 a2 t256 t281 (t281 != t256) l0_0 l0_1 l0_2 a0_3 a0_4 t245 t248 t251 t254 t255 t258 t261 t264 t267 t268 t270 t273 t276 t279 t280) else (laws_FnExactSummed.j1 kj4 a1 a2 t256 t281 true l0_0 l0_1 l0_2 a0_3 a0_4 t245 t248 t251 t254 t255 t258 t261 t264 t267 t268 t270 t273 t276 t279 t280)) = some r := H
    have A45 := Aside0.mk A450
    clear A450
    by_cases c46 : t283 = true
    ·
     subst c46
     have H1 : (laws_FnExactSummed.j1 kj4 a1 a2 t256 t281 (t281 != t256) l0_0 l0_1 l0_2 a0_3 a0_4 t245 t248 t251 t254 t255 t258 t261 t264 t267 t268 t270 t273 t276 t279 t280) = some r := by rw [if_pos rfl] at H; exact H
     clear H
     have H := H1
     clear H1
     have H' := Aside0.mk H
     clear H
     have hnb47 := NB282_232.out
     have hnc47 := NB232_282.out
     have hnb48 := NB282_257.out
     have hnc48 := NB257_282.out
     have hnb49 := NB282_269.out
     have hnc49 := NB269_282.out
     have hcz50_0 : w37.cell? ⟨gb282, 0, none⟩ = some (.slice none 0 0) := (blk_cell BK282.out 0).trans rfl
     have hcz50_1 : w37.cell? ⟨gb282, 1, none⟩ = some (.slice none 0 0) := (blk_cell BK282.out 1).trans rfl
     have hcz50_2 : w37.cell? ⟨gb282, 2, none⟩ = some (.slice none 0 0) := (blk_cell BK282.out 2).trans rfl
     have hcz50_3 : w37.cell? ⟨gb282, 3, none⟩ = some (.int .i64 0) := (blk_cell BK282.out 3).trans rfl
     have hcz50_4 : w37.cell? ⟨gb282, 4, none⟩ = some (.int .i64 0) := (blk_cell BK282.out 4).trans rfl
     have hfz50_0 := blk_frozen BK282.out 0
     have hfz50_1 := blk_frozen BK282.out 1
     have hfz50_2 := blk_frozen BK282.out 2
     have hfz50_3 := blk_frozen BK282.out 3
     have hfz50_4 := blk_frozen BK282.out 4
     have hnb51 := NB257_232.out
     have hnc51 := NB232_257.out
     have hnb52 := NB257_269.out
     have hnc52 := NB269_257.out
     have hcz53_0 : w37.cell? ⟨gb257, 0, none⟩ = some (.slice Ao22 t245.length co22) := (blk_cell BK257.out 0).trans rfl
     have hcz53_1 : w37.cell? ⟨gb257, 1, none⟩ = some (.slice Ao25 t248.length co25) := (blk_cell BK257.out 1).trans rfl
     have hcz53_2 : w37.cell? ⟨gb257, 2, none⟩ = some (.slice Ao26 t251.length co26) := (blk_cell BK257.out 2).trans rfl
     have hcz53_3 : w37.cell? ⟨gb257, 3, none⟩ = some (.int .i64 t254) := (blk_cell BK257.out 3).trans rfl
     have hcz53_4 : w37.cell? ⟨gb257, 4, none⟩ = some (.int .i64 t255) := (blk_cell BK257.out 4).trans rfl
     have hfz53_0 := blk_frozen BK257.out 0
     have hfz53_1 := blk_frozen BK257.out 1
     have hfz53_2 := blk_frozen BK257.out 2
     have hfz53_3 := blk_frozen BK257.out 3
     have hfz53_4 := blk_frozen BK257.out 4
     go_wp2_with (first | ((with_reducible refine gate_callee (f := 14) rfl ?_); refine goesL_ (some 42) rfl rfl Try.func14 (by kernel_rfl) rfl #[.agg #[.slice Ao38 t270.length co38, .slice Ao43 t273.length co43, .slice Ao44 t276.length co44, .int .i64 t279, .int .i64 t280], .agg #[.slice Ao22 t245.length co22, .slice Ao25 t248.length co25, .slice Ao26 t251.length co26, .int .i64 t254, .int .i64 t255]] rfl (by (try simp only [List.map_toArray, List.map_cons, List.map_nil]); first | done | rfl | (simp only [List.length_drop, List.length_take]; rfl)) ?_; (with_reducible refine (laws_eqMemory.calls kj4 _ _ t270 _ _ t273 _ _ t276 t279 t280 _ _ t245 _ _ t248 _ _ t251 t254 t255 true _ ?side1 ?side2 ?side3 ?side4 ?side5 ?side6 ?side7 ?side8 ?side9 ?side10 ?side11 ?side12 A45.out).mono ?_); (case side1 => refine (Kd.R_reads' (e := 96) (base := w.heap.size) (ok := fun k_ => ((True ∧ some k_ ≠ (.slice Ao22 t245.length co22 : Value).ownBlock) ∧ some k_ ≠ (.slice Ao30 t258.length co30 : Value).ownBlock)) (n := t270.length) (c := co38) ?_).2.2; exact (by (with_reducible repeat (first | apply Kd.R_alloc | apply Kd.R_drewN | apply Kd.R_drew)); exact (Kd.R_mono (Kd.R_far (p := ⟨gb282, 4, none⟩) (Kd.R_far (p := ⟨gb282, 3, none⟩) (Kd.R_far (p := ⟨gb282, 2, none⟩) (Kd.R_far (p := ⟨gb282, 1, none⟩) (Kd.R_far (p := ⟨gb282, 0, none⟩) (Kd.R_types HO272.out BK282.out (by decide)) (fun _ hk => hk.2) (.slice Ao38 t270.length co38)) (fun _ hk => hk.2) (.slice Ao43 t273.length co43)) (fun _ hk => hk.2) (.slice Ao44 t276.length co44)) (fun _ hk => hk.2) (.int .i64 t279)) (fun _ hk => hk.2) (.int .i64 t280)) (fun _ h_ => h_.1)))); (case side2 => exact (Kd.R_reads' HO272.out).2.1); (case side3 => refine (Kd.R_reads' (e := 3) (base := w.heap.size) (ok := fun k_ => ((((some k_ ≠ (.slice Ao44 t276.length co44 : Value).ownBlock ∧ some k_ ≠ (.slice Ao25 t248.length co25 : Value).ownBlock) ∧ some k_ ≠ (.slice Ao26 t251.length co26 : Value).ownBlock) ∧ some k_ ≠ (.slice Ao34 t261.length co34 : Value).ownBlock) ∧ some k_ ≠ (.slice Ao35 t264.length co35 : Value).ownBlock)) (n := t273.length) (c := co43) ?_).2.2; exact (by (with_reducible repeat (first | apply Kd.R_alloc | apply Kd.R_drewN | apply Kd.R_drew)); exact (Kd.R_mono (Kd.R_far (p := ⟨gb282, 4, none⟩) (Kd.R_far (p := ⟨gb282, 3, none⟩) (Kd.R_far (p := ⟨gb282, 2, none⟩) (Kd.R_far (p := ⟨gb282, 1, none⟩) (Kd.R_far (p := ⟨gb282, 0, none⟩) (Kd.R_types HO275.out BK282.out (by decide)) (fun _ hk => hk.2) (.slice Ao38 t270.length co38)) (fun _ hk => hk.2) (.slice Ao43 t273.length co43)) (fun _ hk => hk.2) (.slice Ao44 t276.length co44)) (fun _ hk => hk.2) (.int .i64 t279)) (fun _ hk => hk.2) (.int .i64 t280)) (fun _ h_ => h_.1)))); (case side4 => exact (Kd.R_reads' HO275.out).2.1); (case side5 => refine (Kd.R_reads' (e := 3) (base := w.heap.size) (ok := fun k_ => ((((some k_ ≠ (.slice Ao43 t273.length co43 : Value).ownBlock ∧ some k_ ≠ (.slice Ao25 t248.length co25 : Value).ownBlock) ∧ some k_ ≠ (.slice Ao26 t251.length co26 : Value).ownBlock) ∧ some k_ ≠ (.slice Ao34 t261.length co34 : Value).ownBlock) ∧ some k_ ≠ (.slice Ao35 t264.length co35 : Value).ownBlock)) (n := t276.length) (c := co44) ?_).2.2; exact (by (with_reducible repeat (first | apply Kd.R_alloc | apply Kd.R_drewN | apply Kd.R_drew)); exact (Kd.R_mono (Kd.R_far (p := ⟨gb282, 4, none⟩) (Kd.R_far (p := ⟨gb282, 3, none⟩) (Kd.R_far (p := ⟨gb282, 2, none⟩) (Kd.R_far (p := ⟨gb282, 1, none⟩) (Kd.R_far (p := ⟨gb282, 0, none⟩) (Kd.R_types HO278.out BK282.out (by decide)) (fun _ hk => hk.2) (.slice Ao38 t270.length co38)) (fun _ hk => hk.2) (.slice Ao43 t273.length co43)) (fun _ hk => hk.2) (.slice Ao44 t276.length co44)) (fun _ hk => hk.2) (.int .i64 t279)) (fun _ hk => hk.2) (.int .i64 t280)) (fun _ h_ => h_.1)))); (case side6 => exact (Kd.R_reads' HO278.out).2.1); (case side7 => refine (Kd.R_reads' (e := 96) (base := w.heap.size) (ok := fun k_ => (((True ∧ some k_ ≠ (.slice Ao17 t234.length co17 : Value).ownBlock) ∧ some k_ ≠ (.slice Ao30 t258.length co30 : Value).ownBlock) ∧ some k_ ≠ (.slice Ao38 t270.length co38 : Value).ownBlock)) (n := t245.length) (c := co22) ?_).2.2; exact (by (with_reducible repeat (first | apply Kd.R_alloc | apply Kd.R_drewN | apply Kd.R_drew)); exact (Kd.R_mono (Kd.R_far (p := ⟨gb282, 4, none⟩) (Kd.R_far (p := ⟨gb282, 3, none⟩) (Kd.R_far (p := ⟨gb282, 2, none⟩) (Kd.R_far (p := ⟨gb282, 1, none⟩) (Kd.R_far (p := ⟨gb282, 0, none⟩) (Kd.R_types HO247.out BK282.out (by decide)) (fun _ hk => hk.2) (.slice Ao38 t270.length co38)) (fun _ hk => hk.2) (.slice Ao43 t273.length co43)) (fun _ hk => hk.2) (.slice Ao44 t276.length co44)) (fun _ hk => hk.2) (.int .i64 t279)) (fun _ hk => hk.2) (.int .i64 t280)) (fun _ h_ => h_.1)))); (case side8 => exact (Kd.R_reads' HO247.out).2.1); (case side9 => refine (Kd.R_reads' (e := 3) (base := w.heap.size) (ok := fun k_ => ((((((some k_ ≠ (.slice Ao26 t251.length co26 : Value).ownBlock ∧ some k_ ≠ (.slice Ao18 t237.length co18 : Value).ownBlock) ∧ some k_ ≠ (.slice Ao19 t240.length co19 : Value).ownBlock) ∧ some k_ ≠ (.slice Ao34 t261.length co34 : Value).ownBlock) ∧ some k_ ≠ (.slice Ao35 t264.length co35 : Value).ownBlock) ∧ some k_ ≠ (.slice Ao43 t273.length co43 : Value).ownBlock) ∧ some k_ ≠ (.slice Ao44 t276.length co44 : Value).ownBlock)) (n := t248.length) (c := co25) ?_).2.2; exact (by (with_reducible repeat (first | apply Kd.R_alloc | apply Kd.R_drewN | apply Kd.R_drew)); exact (Kd.R_mono (Kd.R_far (p := ⟨gb282, 4, none⟩) (Kd.R_far (p := ⟨gb282, 3, none⟩) (Kd.R_far (p := ⟨gb282, 2, none⟩) (Kd.R_far (p := ⟨gb282, 1, none⟩) (Kd.R_far (p := ⟨gb282, 0, none⟩) (Kd.R_types HO250.out BK282.out (by decide)) (fun _ hk => hk.2) (.slice Ao38 t270.length co38)) (fun _ hk => hk.2) (.slice Ao43 t273.length co43)) (fun _ hk => hk.2) (.slice Ao44 t276.length co44)) (fun _ hk => hk.2) (.int .i64 t279)) (fun _ hk => hk.2) (.int .i64 t280)) (fun _ h_ => h_.1)))); (case side10 => exact (Kd.R_reads' HO250.out).2.1); (case side11 => refine (Kd.R_reads' (e := 3) (base := w.heap.size) (ok := fun k_ => ((((((some k_ ≠ (.slice Ao25 t248.length co25 : Value).ownBlock ∧ some k_ ≠ (.slice Ao18 t237.length co18 : Value).ownBlock) ∧ some k_ ≠ (.slice Ao19 t240.length co19 : Value).ownBlock) ∧ some k_ ≠ (.slice Ao34 t261.length co34 : Value).ownBlock) ∧ some k_ ≠ (.slice Ao35 t264.length co35 : Value).ownBlock) ∧ some k_ ≠ (.slice Ao43 t273.length co43 : Value).ownBlock) ∧ some k_ ≠ (.slice Ao44 t276.length co44 : Value).ownBlock)) (n := t251.length) (c := co26) ?_).2.2; exact (by (with_reducible repeat (first | apply Kd.R_alloc | apply Kd.R_drewN | apply Kd.R_drew)); exact (Kd.R_mono (Kd.R_far (p := ⟨gb282, 4, none⟩) (Kd.R_far (p := ⟨gb282, 3, none⟩) (Kd.R_far (p := ⟨gb282, 2, none⟩) (Kd.R_far (p := ⟨gb282, 1, none⟩) (Kd.R_far (p := ⟨gb282, 0, none⟩) (Kd.R_types HO253.out BK282.out (by decide)) (fun _ hk => hk.2) (.slice Ao38 t270.length co38)) (fun _ hk => hk.2) (.slice Ao43 t273.length co43)) (fun _ hk => hk.2) (.slice Ao44 t276.length co44)) (fun _ hk => hk.2) (.int .i64 t279)) (fun _ hk => hk.2) (.int .i64 t280)) (fun _ h_ => h_.1)))); (case side12 => exact (Kd.R_reads' HO253.out).2.1); rintro e w54 ⟨rfl, hb⟩; refine ⟨_, rfl, ?_⟩; have n0_ := Aside0.mk (Kd.R_below (by (with_reducible repeat (first | apply Kd.R_alloc | apply Kd.R_drewN | apply Kd.R_drew)); exact (Kd.R_mono (Kd.R_far (p := ⟨gb282, 4, none⟩) (Kd.R_far (p := ⟨gb282, 3, none⟩) (Kd.R_far (p := ⟨gb282, 2, none⟩) (Kd.R_far (p := ⟨gb282, 1, none⟩) (Kd.R_far (p := ⟨gb282, 0, none⟩) (Kd.R_types HO247.out BK282.out (by decide)) (fun _ hk => hk.2) (.slice Ao38 t270.length co38)) (fun _ hk => hk.2) (.slice Ao43 t273.length co43)) (fun _ hk => hk.2) (.slice Ao44 t276.length co44)) (fun _ hk => hk.2) (.int .i64 t279)) (fun _ hk => hk.2) (.int .i64 t280)) (fun _ h_ => h_.1))) hb); have n1_ := Aside0.mk (Kd.R_below (by (with_reducible repeat (first | apply Kd.R_alloc | apply Kd.R_drewN | apply Kd.R_drew)); exact (Kd.R_mono (Kd.R_far (p := ⟨gb282, 4, none⟩) (Kd.R_far (p := ⟨gb282, 3, none⟩) (Kd.R_far (p := ⟨gb282, 2, none⟩) (Kd.R_far (p := ⟨gb282, 1, none⟩) (Kd.R_far (p := ⟨gb282, 0, none⟩) (Kd.R_types HO250.out BK282.out (by decide)) (fun _ hk => hk.2) (.slice Ao38 t270.length co38)) (fun _ hk => hk.2) (.slice Ao43 t273.length co43)) (fun _ hk => hk.2) (.slice Ao44 t276.length co44)) (fun _ hk => hk.2) (.int .i64 t279)) (fun _ hk => hk.2) (.int .i64 t280)) (fun _ h_ => h_.1))) hb); have n2_ := Aside0.mk (Kd.R_below (by (with_reducible repeat (first | apply Kd.R_alloc | apply Kd.R_drewN | apply Kd.R_drew)); exact (Kd.R_mono (Kd.R_far (p := ⟨gb282, 4, none⟩) (Kd.R_far (p := ⟨gb282, 3, none⟩) (Kd.R_far (p := ⟨gb282, 2, none⟩) (Kd.R_far (p := ⟨gb282, 1, none⟩) (Kd.R_far (p := ⟨gb282, 0, none⟩) (Kd.R_types HO253.out BK282.out (by decide)) (fun _ hk => hk.2) (.slice Ao38 t270.length co38)) (fun _ hk => hk.2) (.slice Ao43 t273.length co43)) (fun _ hk => hk.2) (.slice Ao44 t276.length co44)) (fun _ hk => hk.2) (.int .i64 t279)) (fun _ hk => hk.2) (.int .i64 t280)) (fun _ h_ => h_.1))) hb); have n3_ := Aside0.mk (Kd.R_below (by (with_reducible repeat (first | apply Kd.R_alloc | apply Kd.R_drewN | apply Kd.R_drew)); exact (Kd.R_mono (Kd.R_far (p := ⟨gb282, 4, none⟩) (Kd.R_far (p := ⟨gb282, 3, none⟩) (Kd.R_far (p := ⟨gb282, 2, none⟩) (Kd.R_far (p := ⟨gb282, 1, none⟩) (Kd.R_far (p := ⟨gb282, 0, none⟩) (Kd.R_types HO260.out BK282.out (by decide)) (fun _ hk => hk.2) (.slice Ao38 t270.length co38)) (fun _ hk => hk.2) (.slice Ao43 t273.length co43)) (fun _ hk => hk.2) (.slice Ao44 t276.length co44)) (fun _ hk => hk.2) (.int .i64 t279)) (fun _ hk => hk.2) (.int .i64 t280)) (fun _ h_ => h_.1))) hb); have n4_ := Aside0.mk (Kd.R_below (by (with_reducible repeat (first | apply Kd.R_alloc | apply Kd.R_drewN | apply Kd.R_drew)); exact (Kd.R_mono (Kd.R_far (p := ⟨gb282, 4, none⟩) (Kd.R_far (p := ⟨gb282, 3, none⟩) (Kd.R_far (p := ⟨gb282, 2, none⟩) (Kd.R_far (p := ⟨gb282, 1, none⟩) (Kd.R_far (p := ⟨gb282, 0, none⟩) (Kd.R_types HO263.out BK282.out (by decide)) (fun _ hk => hk.2) (.slice Ao38 t270.length co38)) (fun _ hk => hk.2) (.slice Ao43 t273.length co43)) (fun _ hk => hk.2) (.slice Ao44 t276.length co44)) (fun _ hk => hk.2) (.int .i64 t279)) (fun _ hk => hk.2) (.int .i64 t280)) (fun _ h_ => h_.1))) hb); have n5_ := Aside0.mk (Kd.R_below (by (with_reducible repeat (first | apply Kd.R_alloc | apply Kd.R_drewN | apply Kd.R_drew)); exact (Kd.R_mono (Kd.R_far (p := ⟨gb282, 4, none⟩) (Kd.R_far (p := ⟨gb282, 3, none⟩) (Kd.R_far (p := ⟨gb282, 2, none⟩) (Kd.R_far (p := ⟨gb282, 1, none⟩) (Kd.R_far (p := ⟨gb282, 0, none⟩) (Kd.R_types HO266.out BK282.out (by decide)) (fun _ hk => hk.2) (.slice Ao38 t270.length co38)) (fun _ hk => hk.2) (.slice Ao43 t273.length co43)) (fun _ hk => hk.2) (.slice Ao44 t276.length co44)) (fun _ hk => hk.2) (.int .i64 t279)) (fun _ hk => hk.2) (.int .i64 t280)) (fun _ h_ => h_.1))) hb); have n6_ := Aside0.mk (Kd.R_below (by (with_reducible repeat (first | apply Kd.R_alloc | apply Kd.R_drewN | apply Kd.R_drew)); exact (Kd.R_mono (Kd.R_far (p := ⟨gb282, 4, none⟩) (Kd.R_far (p := ⟨gb282, 3, none⟩) (Kd.R_far (p := ⟨gb282, 2, none⟩) (Kd.R_far (p := ⟨gb282, 1, none⟩) (Kd.R_far (p := ⟨gb282, 0, none⟩) (Kd.R_types HO272.out BK282.out (by decide)) (fun _ hk => hk.2) (.slice Ao38 t270.length co38)) (fun _ hk => hk.2) (.slice Ao43 t273.length co43)) (fun _ hk => hk.2) (.slice Ao44 t276.length co44)) (fun _ hk => hk.2) (.int .i64 t279)) (fun _ hk => hk.2) (.int .i64 t280)) (fun _ h_ => h_.1))) hb); have n7_ := Aside0.mk (Kd.R_below (by (with_reducible repeat (first | apply Kd.R_alloc | apply Kd.R_drewN | apply Kd.R_drew)); exact (Kd.R_mono (Kd.R_far (p := ⟨gb282, 4, none⟩) (Kd.R_far (p := ⟨gb282, 3, none⟩) (Kd.R_far (p := ⟨gb282, 2, none⟩) (Kd.R_far (p := ⟨gb282, 1, none⟩) (Kd.R_far (p := ⟨gb282, 0, none⟩) (Kd.R_types HO275.out BK282.out (by decide)) (fun _ hk => hk.2) (.slice Ao38 t270.length co38)) (fun _ hk => hk.2) (.slice Ao43 t273.length co43)) (fun _ hk => hk.2) (.slice Ao44 t276.length co44)) (fun _ hk => hk.2) (.int .i64 t279)) (fun _ hk => hk.2) (.int .i64 t280)) (fun _ h_ => h_.1))) hb); have n8_ := Aside0.mk (Kd.R_below (by (with_reducible repeat (first | apply Kd.R_alloc | apply Kd.R_drewN | apply Kd.R_drew)); exact (Kd.R_mono (Kd.R_far (p := ⟨gb282, 4, none⟩) (Kd.R_far (p := ⟨gb282, 3, none⟩) (Kd.R_far (p := ⟨gb282, 2, none⟩) (Kd.R_far (p := ⟨gb282, 1, none⟩) (Kd.R_far (p := ⟨gb282, 0, none⟩) (Kd.R_types HO278.out BK282.out (by decide)) (fun _ hk => hk.2) (.slice Ao38 t270.length co38)) (fun _ hk => hk.2) (.slice Ao43 t273.length co43)) (fun _ hk => hk.2) (.slice Ao44 t276.length co44)) (fun _ hk => hk.2) (.int .i64 t279)) (fun _ hk => hk.2) (.int .i64 t280)) (fun _ h_ => h_.1))) hb); have n9_ := Aside0.mk (blk_below (g := gb232) (o := .cells #[.slice A0_0 l0_0.length c0_0, .slice A0_1 l0_1.length c0_1, .slice A0_2 l0_2.length c0_2, .int .i64 a0_3, .int .i64 a0_4] 25 (0, 0)) (by (with_reducible repeat (first | refine blk_drewN ?_ _ | refine blk_drew ?_ | refine blk_alloc ?_ _)); refine blk_far ?_ NB232_282.out _; (with_reducible repeat (first | refine blk_drewN ?_ _ | refine blk_drew ?_ | refine blk_alloc ?_ _)); refine blk_far ?_ NB232_282.out _; (with_reducible repeat (first | refine blk_drewN ?_ _ | refine blk_drew ?_ | refine blk_alloc ?_ _)); refine blk_far ?_ NB232_282.out _; (with_reducible repeat (first | refine blk_drewN ?_ _ | refine blk_drew ?_ | refine blk_alloc ?_ _)); refine blk_far ?_ NB232_282.out _; (with_reducible repeat (first | refine blk_drewN ?_ _ | refine blk_drew ?_ | refine blk_alloc ?_ _)); refine blk_far ?_ NB232_282.out _; (with_reducible repeat (first | refine blk_drewN ?_ _ | refine blk_drew ?_ | refine blk_alloc ?_ _)); exact BK232.out) hb); have n10_ := Aside0.mk (blk_below (g := gb257) (o := .cells #[.slice Ao22 t245.length co22, .slice Ao25 t248.length co25, .slice Ao26 t251.length co26, .int .i64 t254, .int .i64 t255] 29 (0, 0)) (by (with_reducible repeat (first | refine blk_drewN ?_ _ | refine blk_drew ?_ | refine blk_alloc ?_ _)); refine blk_far ?_ NB257_282.out _; (with_reducible repeat (first | refine blk_drewN ?_ _ | refine blk_drew ?_ | refine blk_alloc ?_ _)); refine blk_far ?_ NB257_282.out _; (with_reducible repeat (first | refine blk_drewN ?_ _ | refine blk_drew ?_ | refine blk_alloc ?_ _)); refine blk_far ?_ NB257_282.out _; (with_reducible repeat (first | refine blk_drewN ?_ _ | refine blk_drew ?_ | refine blk_alloc ?_ _)); refine blk_far ?_ NB257_282.out _; (with_reducible repeat (first | refine blk_drewN ?_ _ | refine blk_drew ?_ | refine blk_alloc ?_ _)); refine blk_far ?_ NB257_282.out _; (with_reducible repeat (first | refine blk_drewN ?_ _ | refine blk_drew ?_ | refine blk_alloc ?_ _)); exact BK257.out) hb); have n11_ := Aside0.mk (blk_below (g := gb269) (o := .cells #[.slice Ao30 t258.length co30, .slice Ao34 t261.length co34, .slice Ao35 t264.length co35, .int .i64 t267, .int .i64 t268] 29 (0, 0)) (by (with_reducible repeat (first | refine blk_drewN ?_ _ | refine blk_drew ?_ | refine blk_alloc ?_ _)); refine blk_far ?_ NB269_282.out _; (with_reducible repeat (first | refine blk_drewN ?_ _ | refine blk_drew ?_ | refine blk_alloc ?_ _)); refine blk_far ?_ NB269_282.out _; (with_reducible repeat (first | refine blk_drewN ?_ _ | refine blk_drew ?_ | refine blk_alloc ?_ _)); refine blk_far ?_ NB269_282.out _; (with_reducible repeat (first | refine blk_drewN ?_ _ | refine blk_drew ?_ | refine blk_alloc ?_ _)); refine blk_far ?_ NB269_282.out _; (with_reducible repeat (first | refine blk_drewN ?_ _ | refine blk_drew ?_ | refine blk_alloc ?_ _)); refine blk_far ?_ NB269_282.out _; (with_reducible repeat (first | refine blk_drewN ?_ _ | refine blk_drew ?_ | refine blk_alloc ?_ _)); exact BK269.out) hb); have n12_ := Aside0.mk (blk_below (g := gb282) (o := .cells #[.slice Ao38 t270.length co38, .slice Ao43 t273.length co43, .slice Ao44 t276.length co44, .int .i64 t279, .int .i64 t280] 29 (0, 0)) (by (with_reducible repeat (first | refine blk_drewN ?_ _ | refine blk_drew ?_ | refine blk_alloc ?_ _)); refine blk_put (cs := #[.slice Ao38 t270.length co38, .slice Ao43 t273.length co43, .slice Ao44 t276.length co44, .int .i64 t279, .int .i64 0]) ?_ 4 _ rfl; (with_reducible repeat (first | refine blk_drewN ?_ _ | refine blk_drew ?_ | refine blk_alloc ?_ _)); refine blk_put (cs := #[.slice Ao38 t270.length co38, .slice Ao43 t273.length co43, .slice Ao44 t276.length co44, .int .i64 0, .int .i64 0]) ?_ 3 _ rfl; (with_reducible repeat (first | refine blk_drewN ?_ _ | refine blk_drew ?_ | refine blk_alloc ?_ _)); refine blk_put (cs := #[.slice Ao38 t270.length co38, .slice Ao43 t273.length co43, .slice none 0 0, .int .i64 0, .int .i64 0]) ?_ 2 _ rfl; (with_reducible repeat (first | refine blk_drewN ?_ _ | refine blk_drew ?_ | refine blk_alloc ?_ _)); refine blk_put (cs := #[.slice Ao38 t270.length co38, .slice none 0 0, .slice none 0 0, .int .i64 0, .int .i64 0]) ?_ 1 _ rfl; (with_reducible repeat (first | refine blk_drewN ?_ _ | refine blk_drew ?_ | refine blk_alloc ?_ _)); refine blk_put (cs := #[.slice none 0 0, .slice none 0 0, .slice none 0 0, .int .i64 0, .int .i64 0]) ?_ 0 _ rfl; (with_reducible repeat (first | refine blk_drewN ?_ _ | refine blk_drew ?_ | refine blk_alloc ?_ _)); exact BK282.out) hb); have n13_ := Aside0.mk (below_step (by repeat (first | (with_reducible first | exact HB.out | apply below_alloc | apply pw_below_drewN | apply below_drew1 | refine below_set ?_ GE232.out | refine below_set ?_ GE257.out | refine below_set ?_ GE269.out | refine below_set ?_ GE282.out) | exact HB.out)) hb); clear HO247; clear HO250; clear HO253; clear HO260; clear HO263; clear HO266; clear HO272; clear HO275; clear HO278; clear BK232; clear BK257; clear BK269; clear BK282; clear HB; have HO247 := n0_; have HO250 := n1_; have HO253 := n2_; have HO260 := n3_; have HO263 := n4_; have HO266 := n5_; have HO272 := n6_; have HO275 := n7_; have HO278 := n8_; have BK232 := n9_; have BK257 := n10_; have BK269 := n11_; have BK282 := n12_; have HB := n13_; clear n0_ n1_ n2_ n3_ n4_ n5_ n6_ n7_ n8_ n9_ n10_ n11_ n12_ n13_; (try clear hb); (try clear hb2); (try clear hk); (try clear hi)))
     go_meet
     case rel => exact ⟨_, ((t281 != t256)), (by first | rfl | (simp; done) | (simp [*]; done)), H', ⟨by have := HJ4.out; first | omega | exact Nat.le_refl _⟩, ⟨by (with_reducible repeat (first | apply Kd.R_alloc | apply Kd.R_drewN | apply Kd.R_drew)); exact Kd.R_mono HO247.out (fun _ hk => ⟨hk.1.2, hk.2⟩)⟩, ⟨by (with_reducible repeat (first | apply Kd.R_alloc | apply Kd.R_drewN | apply Kd.R_drew)); exact Kd.R_mono HO250.out (fun _ hk => ⟨hk.1.1.1.1.1.1, ⟨hk.1.1.1.2, ⟨hk.1.1.2, ⟨hk.1.2, hk.2⟩⟩⟩⟩)⟩, ⟨by (with_reducible repeat (first | apply Kd.R_alloc | apply Kd.R_drewN | apply Kd.R_drew)); exact Kd.R_mono HO253.out (fun _ hk => ⟨hk.1.1.1.1.1.1, ⟨hk.1.1.1.2, ⟨hk.1.1.2, ⟨hk.1.2, hk.2⟩⟩⟩⟩)⟩, ⟨by (with_reducible repeat (first | apply Kd.R_alloc | apply Kd.R_drewN | apply Kd.R_drew)); exact Kd.R_mono HO260.out (fun _ hk => ⟨hk.1.2, hk.2⟩)⟩, ⟨by (with_reducible repeat (first | apply Kd.R_alloc | apply Kd.R_drewN | apply Kd.R_drew)); exact Kd.R_mono HO263.out (fun _ hk => ⟨hk.1.1.1.2, ⟨hk.1.1.2, ⟨hk.1.1.1.1, ⟨hk.1.2, hk.2⟩⟩⟩⟩)⟩, ⟨by (with_reducible repeat (first | apply Kd.R_alloc | apply Kd.R_drewN | apply Kd.R_drew)); exact Kd.R_mono HO266.out (fun _ hk => ⟨hk.1.1.1.2, ⟨hk.1.1.2, ⟨hk.1.1.1.1, ⟨hk.1.2, hk.2⟩⟩⟩⟩)⟩, ⟨by (with_reducible repeat (first | apply Kd.R_alloc | apply Kd.R_drewN | apply Kd.R_drew)); exact Kd.R_mono HO272.out (fun _ hk => ⟨hk.1.2, hk.2⟩)⟩, ⟨by (with_reducible repeat (first | apply Kd.R_alloc | apply Kd.R_drewN | apply Kd.R_drew)); exact Kd.R_mono HO275.out (fun _ hk => ⟨hk.1.1.1.2, ⟨hk.1.1.2, ⟨hk.1.2, ⟨hk.2, hk.1.1.1.1⟩⟩⟩⟩)⟩, ⟨by (with_reducible repeat (first | apply Kd.R_alloc | apply Kd.R_drewN | apply Kd.R_drew)); exact Kd.R_mono HO278.out (fun _ hk => ⟨hk.1.1.1.2, ⟨hk.1.1.2, ⟨hk.1.2, ⟨hk.2, hk.1.1.1.1⟩⟩⟩⟩)⟩, ⟨by (with_reducible repeat (first | refine blk_drewN ?_ _ | refine blk_drew ?_ | refine blk_alloc ?_ _)); exact BK232.out⟩, ⟨by (with_reducible repeat (first | refine blk_drewN ?_ _ | refine blk_drew ?_ | refine blk_alloc ?_ _)); exact BK257.out⟩, ⟨by (with_reducible repeat (first | refine blk_drewN ?_ _ | refine blk_drew ?_ | refine blk_alloc ?_ _)); exact BK269.out⟩, ⟨by (with_reducible repeat (first | refine blk_drewN ?_ _ | refine blk_drew ?_ | refine blk_alloc ?_ _)); exact BK282.out⟩, ⟨by repeat (first | (with_reducible first | exact HB.out | apply below_alloc | apply pw_below_drewN | apply below_drew1 | refine below_set ?_ GE232.out | refine below_set ?_ GE257.out | refine below_set ?_ GE269.out | refine below_set ?_ GE282.out) | exact HB.out)⟩⟩
    ·
     replace c46 := Bool.eq_false_iff.mpr c46
     subst c46
     have H1 : (laws_FnExactSummed.j1 kj4 a1 a2 t256 t281 true l0_0 l0_1 l0_2 a0_3 a0_4 t245 t248 t251 t254 t255 t258 t261 t264 t267 t268 t270 t273 t276 t279 t280) = some r := by rw [if_neg (show ¬ (false = true) by decide)] at H; exact H
     clear H
     have H := H1
     clear H1
     have H' := Aside0.mk H
     clear H
     have hnb55 := NB282_232.out
     have hnc55 := NB232_282.out
     have hnb56 := NB282_257.out
     have hnc56 := NB257_282.out
     have hnb57 := NB282_269.out
     have hnc57 := NB269_282.out
     have hcz58_0 : w37.cell? ⟨gb282, 0, none⟩ = some (.slice none 0 0) := (blk_cell BK282.out 0).trans rfl
     have hcz58_1 : w37.cell? ⟨gb282, 1, none⟩ = some (.slice none 0 0) := (blk_cell BK282.out 1).trans rfl
     have hcz58_2 : w37.cell? ⟨gb282, 2, none⟩ = some (.slice none 0 0) := (blk_cell BK282.out 2).trans rfl
     have hcz58_3 : w37.cell? ⟨gb282, 3, none⟩ = some (.int .i64 0) := (blk_cell BK282.out 3).trans rfl
     have hcz58_4 : w37.cell? ⟨gb282, 4, none⟩ = some (.int .i64 0) := (blk_cell BK282.out 4).trans rfl
     have hfz58_0 := blk_frozen BK282.out 0
     have hfz58_1 := blk_frozen BK282.out 1
     have hfz58_2 := blk_frozen BK282.out 2
     have hfz58_3 := blk_frozen BK282.out 3
     have hfz58_4 := blk_frozen BK282.out 4
     have hnb59 := NB257_232.out
     have hnc59 := NB232_257.out
     have hnb60 := NB257_269.out
     have hnc60 := NB269_257.out
     have hcz61_0 : w37.cell? ⟨gb257, 0, none⟩ = some (.slice Ao22 t245.length co22) := (blk_cell BK257.out 0).trans rfl
     have hcz61_1 : w37.cell? ⟨gb257, 1, none⟩ = some (.slice Ao25 t248.length co25) := (blk_cell BK257.out 1).trans rfl
     have hcz61_2 : w37.cell? ⟨gb257, 2, none⟩ = some (.slice Ao26 t251.length co26) := (blk_cell BK257.out 2).trans rfl
     have hcz61_3 : w37.cell? ⟨gb257, 3, none⟩ = some (.int .i64 t254) := (blk_cell BK257.out 3).trans rfl
     have hcz61_4 : w37.cell? ⟨gb257, 4, none⟩ = some (.int .i64 t255) := (blk_cell BK257.out 4).trans rfl
     have hfz61_0 := blk_frozen BK257.out 0
     have hfz61_1 := blk_frozen BK257.out 1
     have hfz61_2 := blk_frozen BK257.out 2
     have hfz61_3 := blk_frozen BK257.out 3
     have hfz61_4 := blk_frozen BK257.out 4
     go_wp2_with (first | ((with_reducible refine gate_callee (f := 14) rfl ?_); refine goesL_ (some 42) rfl rfl Try.func14 (by kernel_rfl) rfl #[.agg #[.slice Ao38 t270.length co38, .slice Ao43 t273.length co43, .slice Ao44 t276.length co44, .int .i64 t279, .int .i64 t280], .agg #[.slice Ao22 t245.length co22, .slice Ao25 t248.length co25, .slice Ao26 t251.length co26, .int .i64 t254, .int .i64 t255]] rfl (by (try simp only [List.map_toArray, List.map_cons, List.map_nil]); first | done | rfl | (simp only [List.length_drop, List.length_take]; rfl)) ?_; (with_reducible refine (laws_eqMemory.calls kj4 _ _ t270 _ _ t273 _ _ t276 t279 t280 _ _ t245 _ _ t248 _ _ t251 t254 t255 false _ ?side1 ?side2 ?side3 ?side4 ?side5 ?side6 ?side7 ?side8 ?side9 ?side10 ?side11 ?side12 A45.out).mono ?_); (case side1 => refine (Kd.R_reads' (e := 96) (base := w.heap.size) (ok := fun k_ => ((True ∧ some k_ ≠ (.slice Ao22 t245.length co22 : Value).ownBlock) ∧ some k_ ≠ (.slice Ao30 t258.length co30 : Value).ownBlock)) (n := t270.length) (c := co38) ?_).2.2; exact (by (with_reducible repeat (first | apply Kd.R_alloc | apply Kd.R_drewN | apply Kd.R_drew)); exact (Kd.R_mono (Kd.R_far (p := ⟨gb282, 4, none⟩) (Kd.R_far (p := ⟨gb282, 3, none⟩) (Kd.R_far (p := ⟨gb282, 2, none⟩) (Kd.R_far (p := ⟨gb282, 1, none⟩) (Kd.R_far (p := ⟨gb282, 0, none⟩) (Kd.R_types HO272.out BK282.out (by decide)) (fun _ hk => hk.2) (.slice Ao38 t270.length co38)) (fun _ hk => hk.2) (.slice Ao43 t273.length co43)) (fun _ hk => hk.2) (.slice Ao44 t276.length co44)) (fun _ hk => hk.2) (.int .i64 t279)) (fun _ hk => hk.2) (.int .i64 t280)) (fun _ h_ => h_.1)))); (case side2 => exact (Kd.R_reads' HO272.out).2.1); (case side3 => refine (Kd.R_reads' (e := 3) (base := w.heap.size) (ok := fun k_ => ((((some k_ ≠ (.slice Ao44 t276.length co44 : Value).ownBlock ∧ some k_ ≠ (.slice Ao25 t248.length co25 : Value).ownBlock) ∧ some k_ ≠ (.slice Ao26 t251.length co26 : Value).ownBlock) ∧ some k_ ≠ (.slice Ao34 t261.length co34 : Value).ownBlock) ∧ some k_ ≠ (.slice Ao35 t264.length co35 : Value).ownBlock)) (n := t273.length) (c := co43) ?_).2.2; exact (by (with_reducible repeat (first | apply Kd.R_alloc | apply Kd.R_drewN | apply Kd.R_drew)); exact (Kd.R_mono (Kd.R_far (p := ⟨gb282, 4, none⟩) (Kd.R_far (p := ⟨gb282, 3, none⟩) (Kd.R_far (p := ⟨gb282, 2, none⟩) (Kd.R_far (p := ⟨gb282, 1, none⟩) (Kd.R_far (p := ⟨gb282, 0, none⟩) (Kd.R_types HO275.out BK282.out (by decide)) (fun _ hk => hk.2) (.slice Ao38 t270.length co38)) (fun _ hk => hk.2) (.slice Ao43 t273.length co43)) (fun _ hk => hk.2) (.slice Ao44 t276.length co44)) (fun _ hk => hk.2) (.int .i64 t279)) (fun _ hk => hk.2) (.int .i64 t280)) (fun _ h_ => h_.1)))); (case side4 => exact (Kd.R_reads' HO275.out).2.1); (case side5 => refine (Kd.R_reads' (e := 3) (base := w.heap.size) (ok := fun k_ => ((((some k_ ≠ (.slice Ao43 t273.length co43 : Value).ownBlock ∧ some k_ ≠ (.slice Ao25 t248.length co25 : Value).ownBlock) ∧ some k_ ≠ (.slice Ao26 t251.length co26 : Value).ownBlock) ∧ some k_ ≠ (.slice Ao34 t261.length co34 : Value).ownBlock) ∧ some k_ ≠ (.slice Ao35 t264.length co35 : Value).ownBlock)) (n := t276.length) (c := co44) ?_).2.2; exact (by (with_reducible repeat (first | apply Kd.R_alloc | apply Kd.R_drewN | apply Kd.R_drew)); exact (Kd.R_mono (Kd.R_far (p := ⟨gb282, 4, none⟩) (Kd.R_far (p := ⟨gb282, 3, none⟩) (Kd.R_far (p := ⟨gb282, 2, none⟩) (Kd.R_far (p := ⟨gb282, 1, none⟩) (Kd.R_far (p := ⟨gb282, 0, none⟩) (Kd.R_types HO278.out BK282.out (by decide)) (fun _ hk => hk.2) (.slice Ao38 t270.length co38)) (fun _ hk => hk.2) (.slice Ao43 t273.length co43)) (fun _ hk => hk.2) (.slice Ao44 t276.length co44)) (fun _ hk => hk.2) (.int .i64 t279)) (fun _ hk => hk.2) (.int .i64 t280)) (fun _ h_ => h_.1)))); (case side6 => exact (Kd.R_reads' HO278.out).2.1); (case side7 => refine (Kd.R_reads' (e := 96) (base := w.heap.size) (ok := fun k_ => (((True ∧ some k_ ≠ (.slice Ao17 t234.length co17 : Value).ownBlock) ∧ some k_ ≠ (.slice Ao30 t258.length co30 : Value).ownBlock) ∧ some k_ ≠ (.slice Ao38 t270.length co38 : Value).ownBlock)) (n := t245.length) (c := co22) ?_).2.2; exact (by (with_reducible repeat (first | apply Kd.R_alloc | apply Kd.R_drewN | apply Kd.R_drew)); exact (Kd.R_mono (Kd.R_far (p := ⟨gb282, 4, none⟩) (Kd.R_far (p := ⟨gb282, 3, none⟩) (Kd.R_far (p := ⟨gb282, 2, none⟩) (Kd.R_far (p := ⟨gb282, 1, none⟩) (Kd.R_far (p := ⟨gb282, 0, none⟩) (Kd.R_types HO247.out BK282.out (by decide)) (fun _ hk => hk.2) (.slice Ao38 t270.length co38)) (fun _ hk => hk.2) (.slice Ao43 t273.length co43)) (fun _ hk => hk.2) (.slice Ao44 t276.length co44)) (fun _ hk => hk.2) (.int .i64 t279)) (fun _ hk => hk.2) (.int .i64 t280)) (fun _ h_ => h_.1)))); (case side8 => exact (Kd.R_reads' HO247.out).2.1); (case side9 => refine (Kd.R_reads' (e := 3) (base := w.heap.size) (ok := fun k_ => ((((((some k_ ≠ (.slice Ao26 t251.length co26 : Value).ownBlock ∧ some k_ ≠ (.slice Ao18 t237.length co18 : Value).ownBlock) ∧ some k_ ≠ (.slice Ao19 t240.length co19 : Value).ownBlock) ∧ some k_ ≠ (.slice Ao34 t261.length co34 : Value).ownBlock) ∧ some k_ ≠ (.slice Ao35 t264.length co35 : Value).ownBlock) ∧ some k_ ≠ (.slice Ao43 t273.length co43 : Value).ownBlock) ∧ some k_ ≠ (.slice Ao44 t276.length co44 : Value).ownBlock)) (n := t248.length) (c := co25) ?_).2.2; exact (by (with_reducible repeat (first | apply Kd.R_alloc | apply Kd.R_drewN | apply Kd.R_drew)); exact (Kd.R_mono (Kd.R_far (p := ⟨gb282, 4, none⟩) (Kd.R_far (p := ⟨gb282, 3, none⟩) (Kd.R_far (p := ⟨gb282, 2, none⟩) (Kd.R_far (p := ⟨gb282, 1, none⟩) (Kd.R_far (p := ⟨gb282, 0, none⟩) (Kd.R_types HO250.out BK282.out (by decide)) (fun _ hk => hk.2) (.slice Ao38 t270.length co38)) (fun _ hk => hk.2) (.slice Ao43 t273.length co43)) (fun _ hk => hk.2) (.slice Ao44 t276.length co44)) (fun _ hk => hk.2) (.int .i64 t279)) (fun _ hk => hk.2) (.int .i64 t280)) (fun _ h_ => h_.1)))); (case side10 => exact (Kd.R_reads' HO250.out).2.1); (case side11 => refine (Kd.R_reads' (e := 3) (base := w.heap.size) (ok := fun k_ => ((((((some k_ ≠ (.slice Ao25 t248.length co25 : Value).ownBlock ∧ some k_ ≠ (.slice Ao18 t237.length co18 : Value).ownBlock) ∧ some k_ ≠ (.slice Ao19 t240.length co19 : Value).ownBlock) ∧ some k_ ≠ (.slice Ao34 t261.length co34 : Value).ownBlock) ∧ some k_ ≠ (.slice Ao35 t264.length co35 : Value).ownBlock) ∧ some k_ ≠ (.slice Ao43 t273.length co43 : Value).ownBlock) ∧ some k_ ≠ (.slice Ao44 t276.length co44 : Value).ownBlock)) (n := t251.length) (c := co26) ?_).2.2; exact (by (with_reducible repeat (first | apply Kd.R_alloc | apply Kd.R_drewN | apply Kd.R_drew)); exact (Kd.R_mono (Kd.R_far (p := ⟨gb282, 4, none⟩) (Kd.R_far (p := ⟨gb282, 3, none⟩) (Kd.R_far (p := ⟨gb282, 2, none⟩) (Kd.R_far (p := ⟨gb282, 1, none⟩) (Kd.R_far (p := ⟨gb282, 0, none⟩) (Kd.R_types HO253.out BK282.out (by decide)) (fun _ hk => hk.2) (.slice Ao38 t270.length co38)) (fun _ hk => hk.2) (.slice Ao43 t273.length co43)) (fun _ hk => hk.2) (.slice Ao44 t276.length co44)) (fun _ hk => hk.2) (.int .i64 t279)) (fun _ hk => hk.2) (.int .i64 t280)) (fun _ h_ => h_.1)))); (case side12 => exact (Kd.R_reads' HO253.out).2.1); rintro e w62 ⟨rfl, hb⟩; refine ⟨_, rfl, ?_⟩; have n0_ := Aside0.mk (Kd.R_below (by (with_reducible repeat (first | apply Kd.R_alloc | apply Kd.R_drewN | apply Kd.R_drew)); exact (Kd.R_mono (Kd.R_far (p := ⟨gb282, 4, none⟩) (Kd.R_far (p := ⟨gb282, 3, none⟩) (Kd.R_far (p := ⟨gb282, 2, none⟩) (Kd.R_far (p := ⟨gb282, 1, none⟩) (Kd.R_far (p := ⟨gb282, 0, none⟩) (Kd.R_types HO247.out BK282.out (by decide)) (fun _ hk => hk.2) (.slice Ao38 t270.length co38)) (fun _ hk => hk.2) (.slice Ao43 t273.length co43)) (fun _ hk => hk.2) (.slice Ao44 t276.length co44)) (fun _ hk => hk.2) (.int .i64 t279)) (fun _ hk => hk.2) (.int .i64 t280)) (fun _ h_ => h_.1))) hb); have n1_ := Aside0.mk (Kd.R_below (by (with_reducible repeat (first | apply Kd.R_alloc | apply Kd.R_drewN | apply Kd.R_drew)); exact (Kd.R_mono (Kd.R_far (p := ⟨gb282, 4, none⟩) (Kd.R_far (p := ⟨gb282, 3, none⟩) (Kd.R_far (p := ⟨gb282, 2, none⟩) (Kd.R_far (p := ⟨gb282, 1, none⟩) (Kd.R_far (p := ⟨gb282, 0, none⟩) (Kd.R_types HO250.out BK282.out (by decide)) (fun _ hk => hk.2) (.slice Ao38 t270.length co38)) (fun _ hk => hk.2) (.slice Ao43 t273.length co43)) (fun _ hk => hk.2) (.slice Ao44 t276.length co44)) (fun _ hk => hk.2) (.int .i64 t279)) (fun _ hk => hk.2) (.int .i64 t280)) (fun _ h_ => h_.1))) hb); have n2_ := Aside0.mk (Kd.R_below (by (with_reducible repeat (first | apply Kd.R_alloc | apply Kd.R_drewN | apply Kd.R_drew)); exact (Kd.R_mono (Kd.R_far (p := ⟨gb282, 4, none⟩) (Kd.R_far (p := ⟨gb282, 3, none⟩) (Kd.R_far (p := ⟨gb282, 2, none⟩) (Kd.R_far (p := ⟨gb282, 1, none⟩) (Kd.R_far (p := ⟨gb282, 0, none⟩) (Kd.R_types HO253.out BK282.out (by decide)) (fun _ hk => hk.2) (.slice Ao38 t270.length co38)) (fun _ hk => hk.2) (.slice Ao43 t273.length co43)) (fun _ hk => hk.2) (.slice Ao44 t276.length co44)) (fun _ hk => hk.2) (.int .i64 t279)) (fun _ hk => hk.2) (.int .i64 t280)) (fun _ h_ => h_.1))) hb); have n3_ := Aside0.mk (Kd.R_below (by (with_reducible repeat (first | apply Kd.R_alloc | apply Kd.R_drewN | apply Kd.R_drew)); exact (Kd.R_mono (Kd.R_far (p := ⟨gb282, 4, none⟩) (Kd.R_far (p := ⟨gb282, 3, none⟩) (Kd.R_far (p := ⟨gb282, 2, none⟩) (Kd.R_far (p := ⟨gb282, 1, none⟩) (Kd.R_far (p := ⟨gb282, 0, none⟩) (Kd.R_types HO260.out BK282.out (by decide)) (fun _ hk => hk.2) (.slice Ao38 t270.length co38)) (fun _ hk => hk.2) (.slice Ao43 t273.length co43)) (fun _ hk => hk.2) (.slice Ao44 t276.length co44)) (fun _ hk => hk.2) (.int .i64 t279)) (fun _ hk => hk.2) (.int .i64 t280)) (fun _ h_ => h_.1))) hb); have n4_ := Aside0.mk (Kd.R_below (by (with_reducible repeat (first | apply Kd.R_alloc | apply Kd.R_drewN | apply Kd.R_drew)); exact (Kd.R_mono (Kd.R_far (p := ⟨gb282, 4, none⟩) (Kd.R_far (p := ⟨gb282, 3, none⟩) (Kd.R_far (p := ⟨gb282, 2, none⟩) (Kd.R_far (p := ⟨gb282, 1, none⟩) (Kd.R_far (p := ⟨gb282, 0, none⟩) (Kd.R_types HO263.out BK282.out (by decide)) (fun _ hk => hk.2) (.slice Ao38 t270.length co38)) (fun _ hk => hk.2) (.slice Ao43 t273.length co43)) (fun _ hk => hk.2) (.slice Ao44 t276.length co44)) (fun _ hk => hk.2) (.int .i64 t279)) (fun _ hk => hk.2) (.int .i64 t280)) (fun _ h_ => h_.1))) hb); have n5_ := Aside0.mk (Kd.R_below (by (with_reducible repeat (first | apply Kd.R_alloc | apply Kd.R_drewN | apply Kd.R_drew)); exact (Kd.R_mono (Kd.R_far (p := ⟨gb282, 4, none⟩) (Kd.R_far (p := ⟨gb282, 3, none⟩) (Kd.R_far (p := ⟨gb282, 2, none⟩) (Kd.R_far (p := ⟨gb282, 1, none⟩) (Kd.R_far (p := ⟨gb282, 0, none⟩) (Kd.R_types HO266.out BK282.out (by decide)) (fun _ hk => hk.2) (.slice Ao38 t270.length co38)) (fun _ hk => hk.2) (.slice Ao43 t273.length co43)) (fun _ hk => hk.2) (.slice Ao44 t276.length co44)) (fun _ hk => hk.2) (.int .i64 t279)) (fun _ hk => hk.2) (.int .i64 t280)) (fun _ h_ => h_.1))) hb); have n6_ := Aside0.mk (Kd.R_below (by (with_reducible repeat (first | apply Kd.R_alloc | apply Kd.R_drewN | apply Kd.R_drew)); exact (Kd.R_mono (Kd.R_far (p := ⟨gb282, 4, none⟩) (Kd.R_far (p := ⟨gb282, 3, none⟩) (Kd.R_far (p := ⟨gb282, 2, none⟩) (Kd.R_far (p := ⟨gb282, 1, none⟩) (Kd.R_far (p := ⟨gb282, 0, none⟩) (Kd.R_types HO272.out BK282.out (by decide)) (fun _ hk => hk.2) (.slice Ao38 t270.length co38)) (fun _ hk => hk.2) (.slice Ao43 t273.length co43)) (fun _ hk => hk.2) (.slice Ao44 t276.length co44)) (fun _ hk => hk.2) (.int .i64 t279)) (fun _ hk => hk.2) (.int .i64 t280)) (fun _ h_ => h_.1))) hb); have n7_ := Aside0.mk (Kd.R_below (by (with_reducible repeat (first | apply Kd.R_alloc | apply Kd.R_drewN | apply Kd.R_drew)); exact (Kd.R_mono (Kd.R_far (p := ⟨gb282, 4, none⟩) (Kd.R_far (p := ⟨gb282, 3, none⟩) (Kd.R_far (p := ⟨gb282, 2, none⟩) (Kd.R_far (p := ⟨gb282, 1, none⟩) (Kd.R_far (p := ⟨gb282, 0, none⟩) (Kd.R_types HO275.out BK282.out (by decide)) (fun _ hk => hk.2) (.slice Ao38 t270.length co38)) (fun _ hk => hk.2) (.slice Ao43 t273.length co43)) (fun _ hk => hk.2) (.slice Ao44 t276.length co44)) (fun _ hk => hk.2) (.int .i64 t279)) (fun _ hk => hk.2) (.int .i64 t280)) (fun _ h_ => h_.1))) hb); have n8_ := Aside0.mk (Kd.R_below (by (with_reducible repeat (first | apply Kd.R_alloc | apply Kd.R_drewN | apply Kd.R_drew)); exact (Kd.R_mono (Kd.R_far (p := ⟨gb282, 4, none⟩) (Kd.R_far (p := ⟨gb282, 3, none⟩) (Kd.R_far (p := ⟨gb282, 2, none⟩) (Kd.R_far (p := ⟨gb282, 1, none⟩) (Kd.R_far (p := ⟨gb282, 0, none⟩) (Kd.R_types HO278.out BK282.out (by decide)) (fun _ hk => hk.2) (.slice Ao38 t270.length co38)) (fun _ hk => hk.2) (.slice Ao43 t273.length co43)) (fun _ hk => hk.2) (.slice Ao44 t276.length co44)) (fun _ hk => hk.2) (.int .i64 t279)) (fun _ hk => hk.2) (.int .i64 t280)) (fun _ h_ => h_.1))) hb); have n9_ := Aside0.mk (blk_below (g := gb232) (o := .cells #[.slice A0_0 l0_0.length c0_0, .slice A0_1 l0_1.length c0_1, .slice A0_2 l0_2.length c0_2, .int .i64 a0_3, .int .i64 a0_4] 25 (0, 0)) (by (with_reducible repeat (first | refine blk_drewN ?_ _ | refine blk_drew ?_ | refine blk_alloc ?_ _)); refine blk_far ?_ NB232_282.out _; (with_reducible repeat (first | refine blk_drewN ?_ _ | refine blk_drew ?_ | refine blk_alloc ?_ _)); refine blk_far ?_ NB232_282.out _; (with_reducible repeat (first | refine blk_drewN ?_ _ | refine blk_drew ?_ | refine blk_alloc ?_ _)); refine blk_far ?_ NB232_282.out _; (with_reducible repeat (first | refine blk_drewN ?_ _ | refine blk_drew ?_ | refine blk_alloc ?_ _)); refine blk_far ?_ NB232_282.out _; (with_reducible repeat (first | refine blk_drewN ?_ _ | refine blk_drew ?_ | refine blk_alloc ?_ _)); refine blk_far ?_ NB232_282.out _; (with_reducible repeat (first | refine blk_drewN ?_ _ | refine blk_drew ?_ | refine blk_alloc ?_ _)); exact BK232.out) hb); have n10_ := Aside0.mk (blk_below (g := gb257) (o := .cells #[.slice Ao22 t245.length co22, .slice Ao25 t248.length co25, .slice Ao26 t251.length co26, .int .i64 t254, .int .i64 t255] 29 (0, 0)) (by (with_reducible repeat (first | refine blk_drewN ?_ _ | refine blk_drew ?_ | refine blk_alloc ?_ _)); refine blk_far ?_ NB257_282.out _; (with_reducible repeat (first | refine blk_drewN ?_ _ | refine blk_drew ?_ | refine blk_alloc ?_ _)); refine blk_far ?_ NB257_282.out _; (with_reducible repeat (first | refine blk_drewN ?_ _ | refine blk_drew ?_ | refine blk_alloc ?_ _)); refine blk_far ?_ NB257_282.out _; (with_reducible repeat (first | refine blk_drewN ?_ _ | refine blk_drew ?_ | refine blk_alloc ?_ _)); refine blk_far ?_ NB257_282.out _; (with_reducible repeat (first | refine blk_drewN ?_ _ | refine blk_drew ?_ | refine blk_alloc ?_ _)); refine blk_far ?_ NB257_282.out _; (with_reducible repeat (first | refine blk_drewN ?_ _ | refine blk_drew ?_ | refine blk_alloc ?_ _)); exact BK257.out) hb); have n11_ := Aside0.mk (blk_below (g := gb269) (o := .cells #[.slice Ao30 t258.length co30, .slice Ao34 t261.length co34, .slice Ao35 t264.length co35, .int .i64 t267, .int .i64 t268] 29 (0, 0)) (by (with_reducible repeat (first | refine blk_drewN ?_ _ | refine blk_drew ?_ | refine blk_alloc ?_ _)); refine blk_far ?_ NB269_282.out _; (with_reducible repeat (first | refine blk_drewN ?_ _ | refine blk_drew ?_ | refine blk_alloc ?_ _)); refine blk_far ?_ NB269_282.out _; (with_reducible repeat (first | refine blk_drewN ?_ _ | refine blk_drew ?_ | refine blk_alloc ?_ _)); refine blk_far ?_ NB269_282.out _; (with_reducible repeat (first | refine blk_drewN ?_ _ | refine blk_drew ?_ | refine blk_alloc ?_ _)); refine blk_far ?_ NB269_282.out _; (with_reducible repeat (first | refine blk_drewN ?_ _ | refine blk_drew ?_ | refine blk_alloc ?_ _)); refine blk_far ?_ NB269_282.out _; (with_reducible repeat (first | refine blk_drewN ?_ _ | refine blk_drew ?_ | refine blk_alloc ?_ _)); exact BK269.out) hb); have n12_ := Aside0.mk (blk_below (g := gb282) (o := .cells #[.slice Ao38 t270.length co38, .slice Ao43 t273.length co43, .slice Ao44 t276.length co44, .int .i64 t279, .int .i64 t280] 29 (0, 0)) (by (with_reducible repeat (first | refine blk_drewN ?_ _ | refine blk_drew ?_ | refine blk_alloc ?_ _)); refine blk_put (cs := #[.slice Ao38 t270.length co38, .slice Ao43 t273.length co43, .slice Ao44 t276.length co44, .int .i64 t279, .int .i64 0]) ?_ 4 _ rfl; (with_reducible repeat (first | refine blk_drewN ?_ _ | refine blk_drew ?_ | refine blk_alloc ?_ _)); refine blk_put (cs := #[.slice Ao38 t270.length co38, .slice Ao43 t273.length co43, .slice Ao44 t276.length co44, .int .i64 0, .int .i64 0]) ?_ 3 _ rfl; (with_reducible repeat (first | refine blk_drewN ?_ _ | refine blk_drew ?_ | refine blk_alloc ?_ _)); refine blk_put (cs := #[.slice Ao38 t270.length co38, .slice Ao43 t273.length co43, .slice none 0 0, .int .i64 0, .int .i64 0]) ?_ 2 _ rfl; (with_reducible repeat (first | refine blk_drewN ?_ _ | refine blk_drew ?_ | refine blk_alloc ?_ _)); refine blk_put (cs := #[.slice Ao38 t270.length co38, .slice none 0 0, .slice none 0 0, .int .i64 0, .int .i64 0]) ?_ 1 _ rfl; (with_reducible repeat (first | refine blk_drewN ?_ _ | refine blk_drew ?_ | refine blk_alloc ?_ _)); refine blk_put (cs := #[.slice none 0 0, .slice none 0 0, .slice none 0 0, .int .i64 0, .int .i64 0]) ?_ 0 _ rfl; (with_reducible repeat (first | refine blk_drewN ?_ _ | refine blk_drew ?_ | refine blk_alloc ?_ _)); exact BK282.out) hb); have n13_ := Aside0.mk (below_step (by repeat (first | (with_reducible first | exact HB.out | apply below_alloc | apply pw_below_drewN | apply below_drew1 | refine below_set ?_ GE232.out | refine below_set ?_ GE257.out | refine below_set ?_ GE269.out | refine below_set ?_ GE282.out) | exact HB.out)) hb); clear HO247; clear HO250; clear HO253; clear HO260; clear HO263; clear HO266; clear HO272; clear HO275; clear HO278; clear BK232; clear BK257; clear BK269; clear BK282; clear HB; have HO247 := n0_; have HO250 := n1_; have HO253 := n2_; have HO260 := n3_; have HO263 := n4_; have HO266 := n5_; have HO272 := n6_; have HO275 := n7_; have HO278 := n8_; have BK232 := n9_; have BK257 := n10_; have BK269 := n11_; have BK282 := n12_; have HB := n13_; clear n0_ n1_ n2_ n3_ n4_ n5_ n6_ n7_ n8_ n9_ n10_ n11_ n12_ n13_; (try clear hb); (try clear hb2); (try clear hk); (try clear hi)))
     go_meet
     case rel => exact ⟨_, (true), (by first | rfl | (simp; done) | (simp [*]; done)), H', ⟨by have := HJ4.out; first | omega | exact Nat.le_refl _⟩, ⟨by (with_reducible repeat (first | apply Kd.R_alloc | apply Kd.R_drewN | apply Kd.R_drew)); exact Kd.R_mono HO247.out (fun _ hk => ⟨hk.1.2, hk.2⟩)⟩, ⟨by (with_reducible repeat (first | apply Kd.R_alloc | apply Kd.R_drewN | apply Kd.R_drew)); exact Kd.R_mono HO250.out (fun _ hk => ⟨hk.1.1.1.1.1.1, ⟨hk.1.1.1.2, ⟨hk.1.1.2, ⟨hk.1.2, hk.2⟩⟩⟩⟩)⟩, ⟨by (with_reducible repeat (first | apply Kd.R_alloc | apply Kd.R_drewN | apply Kd.R_drew)); exact Kd.R_mono HO253.out (fun _ hk => ⟨hk.1.1.1.1.1.1, ⟨hk.1.1.1.2, ⟨hk.1.1.2, ⟨hk.1.2, hk.2⟩⟩⟩⟩)⟩, ⟨by (with_reducible repeat (first | apply Kd.R_alloc | apply Kd.R_drewN | apply Kd.R_drew)); exact Kd.R_mono HO260.out (fun _ hk => ⟨hk.1.2, hk.2⟩)⟩, ⟨by (with_reducible repeat (first | apply Kd.R_alloc | apply Kd.R_drewN | apply Kd.R_drew)); exact Kd.R_mono HO263.out (fun _ hk => ⟨hk.1.1.1.2, ⟨hk.1.1.2, ⟨hk.1.1.1.1, ⟨hk.1.2, hk.2⟩⟩⟩⟩)⟩, ⟨by (with_reducible repeat (first | apply Kd.R_alloc | apply Kd.R_drewN | apply Kd.R_drew)); exact Kd.R_mono HO266.out (fun _ hk => ⟨hk.1.1.1.2, ⟨hk.1.1.2, ⟨hk.1.1.1.1, ⟨hk.1.2, hk.2⟩⟩⟩⟩)⟩, ⟨by (with_reducible repeat (first | apply Kd.R_alloc | apply Kd.R_drewN | apply Kd.R_drew)); exact Kd.R_mono HO272.out (fun _ hk => ⟨hk.1.2, hk.2⟩)⟩, ⟨by (with_reducible repeat (first | apply Kd.R_alloc | apply Kd.R_drewN | apply Kd.R_drew)); exact Kd.R_mono HO275.out (fun _ hk => ⟨hk.1.1.1.2, ⟨hk.1.1.2, ⟨hk.1.2, ⟨hk.2, hk.1.1.1.1⟩⟩⟩⟩)⟩, ⟨by (with_reducible repeat (first | apply Kd.R_alloc | apply Kd.R_drewN | apply Kd.R_drew)); exact Kd.R_mono HO278.out (fun _ hk => ⟨hk.1.1.1.2, ⟨hk.1.1.2, ⟨hk.1.2, ⟨hk.2, hk.1.1.1.1⟩⟩⟩⟩)⟩, ⟨by (with_reducible repeat (first | refine blk_drewN ?_ _ | refine blk_drew ?_ | refine blk_alloc ?_ _)); exact BK232.out⟩, ⟨by (with_reducible repeat (first | refine blk_drewN ?_ _ | refine blk_drew ?_ | refine blk_alloc ?_ _)); exact BK257.out⟩, ⟨by (with_reducible repeat (first | refine blk_drewN ?_ _ | refine blk_drew ?_ | refine blk_alloc ?_ _)); exact BK269.out⟩, ⟨by (with_reducible repeat (first | refine blk_drewN ?_ _ | refine blk_drew ?_ | refine blk_alloc ?_ _)); exact BK282.out⟩, ⟨by repeat (first | (with_reducible first | exact HB.out | apply below_alloc | apply pw_below_drewN | apply below_drew1 | refine below_set ?_ GE232.out | refine below_set ?_ GE257.out | refine below_set ?_ GE269.out | refine below_set ?_ GE282.out) | exact HB.out)⟩⟩
   case rest =>
    clear HC14
    try clear c1
    try clear c2
    try clear p2
    try clear c3
    try clear c4
    try clear c5
    try clear c6
    try clear c9
    try clear c9b0
    try clear c10
    try clear c11
    try clear c12
    try clear c13
    try clear c14
    try clear c23
    try clear c31
    try clear c32
    try clear c39
    try clear c40
    try clear c41
    try clear c46
    try clear c47
    try clear c48
    try clear c49
    try clear c51
    try clear c52
    try clear c55
    try clear c56
    try clear c57
    try clear c59
    try clear c60
    try clear hcz15_0
    try clear hcz15_1
    try clear hcz15_2
    try clear hcz15_3
    try clear hcz15_4
    try clear hcz24_0
    try clear hcz24_1
    try clear hcz24_2
    try clear hcz24_3
    try clear hcz24_4
    try clear hcz27_0
    try clear hcz27_1
    try clear hcz27_2
    try clear hcz27_3
    try clear hcz27_4
    try clear hcz33_0
    try clear hcz33_1
    try clear hcz33_2
    try clear hcz33_3
    try clear hcz33_4
    try clear hcz42_0
    try clear hcz42_1
    try clear hcz42_2
    try clear hcz42_3
    try clear hcz42_4
    try clear hcz50_0
    try clear hcz50_1
    try clear hcz50_2
    try clear hcz50_3
    try clear hcz50_4
    try clear hcz53_0
    try clear hcz53_1
    try clear hcz53_2
    try clear hcz53_3
    try clear hcz53_4
    try clear hcz58_0
    try clear hcz58_1
    try clear hcz58_2
    try clear hcz58_3
    try clear hcz58_4
    try clear hcz61_0
    try clear hcz61_1
    try clear hcz61_2
    try clear hcz61_3
    try clear hcz61_4
    try clear hcz7_0
    try clear hcz7_1
    try clear hcz7_2
    try clear hcz7_3
    try clear hcz7_4
    try clear hfz15_0
    try clear hfz15_1
    try clear hfz15_2
    try clear hfz15_3
    try clear hfz15_4
    try clear hfz24_0
    try clear hfz24_1
    try clear hfz24_2
    try clear hfz24_3
    try clear hfz24_4
    try clear hfz27_0
    try clear hfz27_1
    try clear hfz27_2
    try clear hfz27_3
    try clear hfz27_4
    try clear hfz33_0
    try clear hfz33_1
    try clear hfz33_2
    try clear hfz33_3
    try clear hfz33_4
    try clear hfz42_0
    try clear hfz42_1
    try clear hfz42_2
    try clear hfz42_3
    try clear hfz42_4
    try clear hfz50_0
    try clear hfz50_1
    try clear hfz50_2
    try clear hfz50_3
    try clear hfz50_4
    try clear hfz53_0
    try clear hfz53_1
    try clear hfz53_2
    try clear hfz53_3
    try clear hfz53_4
    try clear hfz58_0
    try clear hfz58_1
    try clear hfz58_2
    try clear hfz58_3
    try clear hfz58_4
    try clear hfz61_0
    try clear hfz61_1
    try clear hfz61_2
    try clear hfz61_3
    try clear hfz61_4
    try clear hfz7_0
    try clear hfz7_1
    try clear hfz7_2
    try clear hfz7_3
    try clear hfz7_4
    try clear p2
    obtain ⟨kq, x48_13, rfl, HA, HJ13, HO_258000, HO_258001, HO_258002, HO_270000, HO_270001, HO_270002, HO_283000, HO_283001, HO_283002, BK232, BK257, BK269, BK282, HB⟩ := hcut
    cases kq with
    | zero => exact absurd HA.out (by simp [laws_FnExactSummed.j1])
    | succ kj13 =>
     have H := HA.out
     clear HA
     simp only [laws_FnExactSummed.j1] at H
     have HC63 := Aside0.mk H
     clear H
     go_upto_if 48 with (fail)
     go_cut [] (fun wc => ∃ (kq : Nat), Aside0 (laws_FnExactSummed.j2 kq a1 a2 t256 t281 l0_0 l0_1 l0_2 a0_3 a0_4 t245 t248 t251 t254 t255 t258 t261 t264 t267 t268 t270 t273 t276 t279 t280 = some r) ∧ Aside0 (kq ≤ kj13) ∧ Aside0 (Kd.R k96 96 wc w.heap.size (fun k_ => some k_ ≠ ((.slice Ao30 t258.length co30) : Value).ownBlock ∧ some k_ ≠ ((.slice Ao38 t270.length co38) : Value).ownBlock) (.slice Ao22 t245.length co22) t245) ∧ Aside0 (Kd.R (Kd.int .i64) 3 wc w.heap.size (fun k_ => some k_ ≠ ((.slice Ao26 t251.length co26) : Value).ownBlock ∧ some k_ ≠ ((.slice Ao34 t261.length co34) : Value).ownBlock ∧ some k_ ≠ ((.slice Ao35 t264.length co35) : Value).ownBlock ∧ some k_ ≠ ((.slice Ao43 t273.length co43) : Value).ownBlock ∧ some k_ ≠ ((.slice Ao44 t276.length co44) : Value).ownBlock) (.slice Ao25 t248.length co25) t248) ∧ Aside0 (Kd.R (Kd.int .i64) 3 wc w.heap.size (fun k_ => some k_ ≠ ((.slice Ao25 t248.length co25) : Value).ownBlock ∧ some k_ ≠ ((.slice Ao34 t261.length co34) : Value).ownBlock ∧ some k_ ≠ ((.slice Ao35 t264.length co35) : Value).ownBlock ∧ some k_ ≠ ((.slice Ao43 t273.length co43) : Value).ownBlock ∧ some k_ ≠ ((.slice Ao44 t276.length co44) : Value).ownBlock) (.slice Ao26 t251.length co26) t251) ∧ Aside0 (Kd.R k96 96 wc w.heap.size (fun k_ => some k_ ≠ ((.slice Ao22 t245.length co22) : Value).ownBlock ∧ some k_ ≠ ((.slice Ao38 t270.length co38) : Value).ownBlock) (.slice Ao30 t258.length co30) t258) ∧ Aside0 (Kd.R (Kd.int .i64) 3 wc w.heap.size (fun k_ => some k_ ≠ ((.slice Ao25 t248.length co25) : Value).ownBlock ∧ some k_ ≠ ((.slice Ao26 t251.length co26) : Value).ownBlock ∧ some k_ ≠ ((.slice Ao35 t264.length co35) : Value).ownBlock ∧ some k_ ≠ ((.slice Ao43 t273.length co43) : Value).ownBlock ∧ some k_ ≠ ((.slice Ao44 t276.length co44) : Value).ownBlock) (.slice Ao34 t261.length co34) t261) ∧ Aside0 (Kd.R (Kd.int .i64) 3 wc w.heap.size (fun k_ => some k_ ≠ ((.slice Ao25 t248.length co25) : Value).ownBlock ∧ some k_ ≠ ((.slice Ao26 t251.length co26) : Value).ownBlock ∧ some k_ ≠ ((.slice Ao34 t261.length co34) : Value).ownBlock ∧ some k_ ≠ ((.slice Ao43 t273.length co43) : Value).ownBlock ∧ some k_ ≠ ((.slice Ao44 t276.length co44) : Value).ownBlock) (.slice Ao35 t264.length co35) t264) ∧ Aside0 (Kd.R k96 96 wc w.heap.size (fun k_ => some k_ ≠ ((.slice Ao22 t245.length co22) : Value).ownBlock ∧ some k_ ≠ ((.slice Ao30 t258.length co30) : Value).ownBlock) (.slice Ao38 t270.length co38) t270) ∧ Aside0 (Kd.R (Kd.int .i64) 3 wc w.heap.size (fun k_ => some k_ ≠ ((.slice Ao25 t248.length co25) : Value).ownBlock ∧ some k_ ≠ ((.slice Ao26 t251.length co26) : Value).ownBlock ∧ some k_ ≠ ((.slice Ao34 t261.length co34) : Value).ownBlock ∧ some k_ ≠ ((.slice Ao35 t264.length co35) : Value).ownBlock ∧ some k_ ≠ ((.slice Ao44 t276.length co44) : Value).ownBlock) (.slice Ao43 t273.length co43) t273) ∧ Aside0 (Kd.R (Kd.int .i64) 3 wc w.heap.size (fun k_ => some k_ ≠ ((.slice Ao25 t248.length co25) : Value).ownBlock ∧ some k_ ≠ ((.slice Ao26 t251.length co26) : Value).ownBlock ∧ some k_ ≠ ((.slice Ao34 t261.length co34) : Value).ownBlock ∧ some k_ ≠ ((.slice Ao35 t264.length co35) : Value).ownBlock ∧ some k_ ≠ ((.slice Ao43 t273.length co43) : Value).ownBlock) (.slice Ao44 t276.length co44) t276) ∧ Aside0 (wc.heap[gb232]? = some (.cells #[(.slice A0_0 l0_0.length c0_0), (.slice A0_1 l0_1.length c0_1), (.slice A0_2 l0_2.length c0_2), .int .i64 a0_3, .int .i64 a0_4] 25 (0, 0))) ∧ Aside0 (wc.heap[gb257]? = some (.cells #[(.slice Ao22 t245.length co22), (.slice Ao25 t248.length co25), (.slice Ao26 t251.length co26), .int .i64 t254, .int .i64 t255] 29 (0, 0))) ∧ Aside0 (wc.heap[gb269]? = some (.cells #[(.slice Ao30 t258.length co30), (.slice Ao34 t261.length co34), (.slice Ao35 t264.length co35), .int .i64 t267, .int .i64 t268] 29 (0, 0))) ∧ Aside0 (wc.heap[gb282]? = some (.cells #[(.slice Ao38 t270.length co38), (.slice Ao43 t273.length co43), (.slice Ao44 t276.length co44), .int .i64 t279, .int .i64 t280] 29 (0, 0))) ∧ Aside0 (Below w.heap.size w wc))
     case first =>
      have H := HC63.out
      clear HC63
      by_cases c64 : x48_13 = true
      ·
       subst c64
       have H1 : (some false) = some r := by rw [if_pos rfl] at H; exact H
       clear H
       have H := H1
       clear H1
       obtain rfl := Option.some.inj H
       go_wp2
       go_ret
       exact ⟨by first | rfl | (simp [errW_none, errW_some] <;> rfl) | (simp [*, errW_none, errW_some] <;> rfl), by repeat (first | (with_reducible first | exact HB.out | apply below_alloc | apply pw_below_drewN | apply below_drew1 | refine below_set ?_ GE232.out | refine below_set ?_ GE257.out | refine below_set ?_ GE269.out | refine below_set ?_ GE282.out) | exact HB.out)⟩
      ·
       replace c64 := Bool.eq_false_iff.mpr c64
       subst c64
       have H1 : (laws_FnExactSummed.j2 kj13 a1 a2 t256 t281 l0_0 l0_1 l0_2 a0_3 a0_4 t245 t248 t251 t254 t255 t258 t261 t264 t267 t268 t270 t273 t276 t279 t280) = some r := by rw [if_neg (show ¬ (false = true) by decide)] at H; exact H
       clear H
       have H := H1
       clear H1
       have H' := Aside0.mk H
       clear H
       go_wp2
       go_meet
       case rel => exact ⟨_, H', ⟨by have := HJ4.out; have := HJ13.out; first | omega | exact Nat.le_refl _⟩, ⟨by (with_reducible repeat (first | apply Kd.R_alloc | apply Kd.R_drewN | apply Kd.R_drew)); exact HO_258000.out⟩, ⟨by (with_reducible repeat (first | apply Kd.R_alloc | apply Kd.R_drewN | apply Kd.R_drew)); exact HO_258001.out⟩, ⟨by (with_reducible repeat (first | apply Kd.R_alloc | apply Kd.R_drewN | apply Kd.R_drew)); exact HO_258002.out⟩, ⟨by (with_reducible repeat (first | apply Kd.R_alloc | apply Kd.R_drewN | apply Kd.R_drew)); exact HO_270000.out⟩, ⟨by (with_reducible repeat (first | apply Kd.R_alloc | apply Kd.R_drewN | apply Kd.R_drew)); exact HO_270001.out⟩, ⟨by (with_reducible repeat (first | apply Kd.R_alloc | apply Kd.R_drewN | apply Kd.R_drew)); exact HO_270002.out⟩, ⟨by (with_reducible repeat (first | apply Kd.R_alloc | apply Kd.R_drewN | apply Kd.R_drew)); exact HO_283000.out⟩, ⟨by (with_reducible repeat (first | apply Kd.R_alloc | apply Kd.R_drewN | apply Kd.R_drew)); exact HO_283001.out⟩, ⟨by (with_reducible repeat (first | apply Kd.R_alloc | apply Kd.R_drewN | apply Kd.R_drew)); exact HO_283002.out⟩, ⟨by (with_reducible repeat (first | refine blk_drewN ?_ _ | refine blk_drew ?_ | refine blk_alloc ?_ _)); exact BK232.out⟩, ⟨by (with_reducible repeat (first | refine blk_drewN ?_ _ | refine blk_drew ?_ | refine blk_alloc ?_ _)); exact BK257.out⟩, ⟨by (with_reducible repeat (first | refine blk_drewN ?_ _ | refine blk_drew ?_ | refine blk_alloc ?_ _)); exact BK269.out⟩, ⟨by (with_reducible repeat (first | refine blk_drewN ?_ _ | refine blk_drew ?_ | refine blk_alloc ?_ _)); exact BK282.out⟩, ⟨by repeat (first | (with_reducible first | exact HB.out | apply below_alloc | apply pw_below_drewN | apply below_drew1 | refine below_set ?_ GE232.out | refine below_set ?_ GE257.out | refine below_set ?_ GE269.out | refine below_set ?_ GE282.out) | exact HB.out)⟩⟩
     case rest =>
      clear HC63
      try clear c1
      try clear c2
      try clear p2
      try clear c3
      try clear c4
      try clear c5
      try clear c6
      try clear c9
      try clear c9b0
      try clear c10
      try clear c11
      try clear c12
      try clear c13
      try clear c14
      try clear c23
      try clear c31
      try clear c32
      try clear c39
      try clear c40
      try clear c41
      try clear c46
      try clear c47
      try clear c48
      try clear c49
      try clear c51
      try clear c52
      try clear c55
      try clear c56
      try clear c57
      try clear c59
      try clear c60
      try clear c64
      try clear hcz15_0
      try clear hcz15_1
      try clear hcz15_2
      try clear hcz15_3
      try clear hcz15_4
      try clear hcz24_0
      try clear hcz24_1
      try clear hcz24_2
      try clear hcz24_3
      try clear hcz24_4
      try clear hcz27_0
      try clear hcz27_1
      try clear hcz27_2
      try clear hcz27_3
      try clear hcz27_4
      try clear hcz33_0
      try clear hcz33_1
      try clear hcz33_2
      try clear hcz33_3
      try clear hcz33_4
      try clear hcz42_0
      try clear hcz42_1
      try clear hcz42_2
      try clear hcz42_3
      try clear hcz42_4
      try clear hcz50_0
      try clear hcz50_1
      try clear hcz50_2
      try clear hcz50_3
      try clear hcz50_4
      try clear hcz53_0
      try clear hcz53_1
      try clear hcz53_2
      try clear hcz53_3
      try clear hcz53_4
      try clear hcz58_0
      try clear hcz58_1
      try clear hcz58_2
      try clear hcz58_3
      try clear hcz58_4
      try clear hcz61_0
      try clear hcz61_1
      try clear hcz61_2
      try clear hcz61_3
      try clear hcz61_4
      try clear hcz7_0
      try clear hcz7_1
      try clear hcz7_2
      try clear hcz7_3
      try clear hcz7_4
      try clear hfz15_0
      try clear hfz15_1
      try clear hfz15_2
      try clear hfz15_3
      try clear hfz15_4
      try clear hfz24_0
      try clear hfz24_1
      try clear hfz24_2
      try clear hfz24_3
      try clear hfz24_4
      try clear hfz27_0
      try clear hfz27_1
      try clear hfz27_2
      try clear hfz27_3
      try clear hfz27_4
      try clear hfz33_0
      try clear hfz33_1
      try clear hfz33_2
      try clear hfz33_3
      try clear hfz33_4
      try clear hfz42_0
      try clear hfz42_1
      try clear hfz42_2
      try clear hfz42_3
      try clear hfz42_4
      try clear hfz50_0
      try clear hfz50_1
      try clear hfz50_2
      try clear hfz50_3
      try clear hfz50_4
      try clear hfz53_0
      try clear hfz53_1
      try clear hfz53_2
      try clear hfz53_3
      try clear hfz53_4
      try clear hfz58_0
      try clear hfz58_1
      try clear hfz58_2
      try clear hfz58_3
      try clear hfz58_4
      try clear hfz61_0
      try clear hfz61_1
      try clear hfz61_2
      try clear hfz61_3
      try clear hfz61_4
      try clear hfz7_0
      try clear hfz7_1
      try clear hfz7_2
      try clear hfz7_3
      try clear hfz7_4
      try clear p2
      obtain ⟨kq, HA, HJ62, HO_258000, HO_258001, HO_258002, HO_270000, HO_270001, HO_270002, HO_283000, HO_283001, HO_283002, BK232, BK257, BK269, BK282, HB⟩ := hcut
      cases kq with
      | zero => exact absurd HA.out (by simp [laws_FnExactSummed.j2])
      | succ kj62 =>
       have H := HA.out
       clear HA
       simp only [laws_FnExactSummed.j2] at H
       replace H := Option.bind_eq_some_iff.mp H
       obtain ⟨⟨t284, t287, t290, t293, t294⟩, A650, H⟩ := H
       replace H : ((laws_eqMemory.f kj62 t258 t261 t264 t267 t268 t284 t287 t290 t293 t294).bind fun t295 => (if t295 = true then (laws_FnExactSummed.j3 kj62 a1 a2 t256 t281 l0_0 l0_1 l0_2 a0_3 a0_4 t245 t248 t251 t254 t255 t258 t261 t264 t267 t268 t270 t273 t276 t279 t280) else (some false))) = some r := H
       have A65 := Aside0.mk A650
       clear A650
       replace H := Option.bind_eq_some_iff.mp H
       obtain ⟨t295, A660, H⟩ := H
       replace H : (if t295 = true then (laws_FnExactSummed.j3 kj62 a1 a2 t256 t281 l0_0 l0_1 l0_2 a0_3 a0_4 t245 t248 t251 t254 t255 t258 t261 t264 t267 t268 t270 t273 t276 t279 t280) else (some false)) = some r := H
       have A66 := Aside0.mk A660
       clear A660
       have HC67 := Aside0.mk H
       clear H
       try go_wp2
       have n0_ := Aside0.mk (Kd.R_drew HO_258000.out)
       have n1_ := Aside0.mk (Kd.R_drew HO_258001.out)
       have n2_ := Aside0.mk (Kd.R_drew HO_258002.out)
       have n3_ := Aside0.mk (Kd.R_drew HO_270000.out)
       have n4_ := Aside0.mk (Kd.R_drew HO_270001.out)
       have n5_ := Aside0.mk (Kd.R_drew HO_270002.out)
       have n6_ := Aside0.mk (Kd.R_drew HO_283000.out)
       have n7_ := Aside0.mk (Kd.R_drew HO_283001.out)
       have n8_ := Aside0.mk (Kd.R_drew HO_283002.out)
       have n9_ := Aside0.mk (blk_drew BK232.out)
       have n10_ := Aside0.mk (blk_drew BK257.out)
       have n11_ := Aside0.mk (blk_drew BK269.out)
       have n12_ := Aside0.mk (blk_drew BK282.out)
       have n13_ := Aside0.mk (below_drew1 HB.out)
       clear HO_258000
       clear HO_258001
       clear HO_258002
       clear HO_270000
       clear HO_270001
       clear HO_270002
       clear HO_283000
       clear HO_283001
       clear HO_283002
       clear BK232
       clear BK257
       clear BK269
       clear BK282
       clear HB
       have HO_258000 := n0_
       have HO_258001 := n1_
       have HO_258002 := n2_
       have HO_270000 := n3_
       have HO_270001 := n4_
       have HO_270002 := n5_
       have HO_283000 := n6_
       have HO_283001 := n7_
       have HO_283002 := n8_
       have BK232 := n9_
       have BK257 := n10_
       have BK269 := n11_
       have BK282 := n12_
       have HB := n13_
       clear n0_ n1_ n2_ n3_ n4_ n5_ n6_ n7_ n8_ n9_ n10_ n11_ n12_ n13_
       refine start_ (n := 5) (S := fun w' => w'.cell? ⟨gb269, 0, none⟩ = some (.slice Ao30 t258.length co30) ∧ w'.cell? ⟨gb269, 1, none⟩ = some (.slice Ao34 t261.length co34) ∧ w'.cell? ⟨gb269, 2, none⟩ = some (.slice Ao35 t264.length co35) ∧ w'.cell? ⟨gb269, 3, none⟩ = some (.int .i64 t267) ∧ w'.cell? ⟨gb269, 4, none⟩ = some (.int .i64 t268) ∧ w'.cell? ⟨gb232, 0, none⟩ = some (.slice A0_0 l0_0.length c0_0) ∧ w'.cell? ⟨gb232, 1, none⟩ = some (.slice A0_1 l0_1.length c0_1) ∧ w'.cell? ⟨gb232, 2, none⟩ = some (.slice A0_2 l0_2.length c0_2) ∧ w'.cell? ⟨gb232, 3, none⟩ = some (.int .i64 a0_3) ∧ w'.cell? ⟨gb232, 4, none⟩ = some (.int .i64 a0_4)) (ds := []) #[false, false, false, false, false] (by kernel_rfl) rfl rfl ⟨(blk_cell BK269.out 0).trans rfl, (blk_cell BK269.out 1).trans rfl, (blk_cell BK269.out 2).trans rfl, (blk_cell BK269.out 3).trans rfl, (blk_cell BK269.out 4).trans rfl, (blk_cell BK232.out 0).trans rfl, (blk_cell BK232.out 1).trans rfl, (blk_cell BK232.out 2).trans rfl, (blk_cell BK232.out 3).trans rfl, (blk_cell BK232.out 4).trans rfl⟩ (fun hHeld => ?_)
       generalize wc.drew = w68 at HO_258000 HO_258001 HO_258002 HO_270000 HO_270001 HO_270002 HO_283000 HO_283001 HO_283002 BK232 BK257 BK269 BK282 HB hHeld ⊢
       refine take_ (i := 0) (N := some 49) (v := ?_) (a' := ?_) #[true, false, false, false, false] rfl rfl (by kernel_rfl) (fun _ _ _ h => h) (Or.inl ⟨by rfl, ?_⟩) hHeld ?_ ?_
       rotate_left
       ·
        rintro w' ⟨s0, s1, s2, s3, s4, s5, s6, s7, s8, s9⟩
        go_simp
        with_reducible rfl
       rotate_left
       ·
        simp only [Act.put, List.setIfInBounds_toArray, List.set_cons_zero, List.set_cons_succ, i64_w, i32_w]
        rfl
       refine take_ (i := 1) (N := some 50) (v := ?_) (a' := ?_) #[true, true, false, false, false] rfl rfl (by kernel_rfl) (fun _ _ _ h => h) (Or.inl ⟨by rfl, ?_⟩) hHeld ?_ ?_
       rotate_left
       ·
        rintro w' ⟨s0, s1, s2, s3, s4, s5, s6, s7, s8, s9⟩
        go_simp
        with_reducible rfl
       rotate_left
       ·
        simp only [Act.put, List.setIfInBounds_toArray, List.set_cons_zero, List.set_cons_succ, i64_w, i32_w]
        rfl
       refine one_ (i := 2) (N := some 51) #[true, true, true, false, false] rfl rfl (by kernel_rfl) (by decide) (fun K hK => ?_)
       refine goes_ Try.func12 (by kernel_rfl) rfl #[.agg #[.slice A0_0 l0_0.length c0_0, .slice A0_1 l0_1.length c0_1, .slice A0_2 l0_2.length c0_2, .int .i64 a0_3, .int .i64 a0_4]] (by rfl) rfl rfl (by (try simp only [List.map_toArray, List.map_cons, List.map_nil]); first | done | rfl | (simp only [List.length_drop, List.length_take]; rfl)) ?_
       with_reducible refine (laws_toMemory.calls kj62 _ _ l0_0 _ _ l0_1 _ _ l0_2 a0_3 a0_4 t284 t287 t290 t293 t294 _ ?side1 ?side2 ?side3 ?side4 ?side5 ?side6 A65.out).mono ?_
       (case side1 => repeat (first | exact (Kd.C_below HR0_0.out HB.out) | (with_reducible refine Kd.C_alloc ?_ _) | (with_reducible refine Kd.C_drewN ?_ _) | (with_reducible refine Kd.C_drew ?_)))
       (case side2 => exact HC0_0.out)
       (case side3 => repeat (first | exact (Kd.C_below HR0_1.out HB.out) | (with_reducible refine Kd.C_alloc ?_ _) | (with_reducible refine Kd.C_drewN ?_ _) | (with_reducible refine Kd.C_drew ?_)))
       (case side4 => exact HC0_1.out)
       (case side5 => repeat (first | exact (Kd.C_below HR0_2.out HB.out) | (with_reducible refine Kd.C_alloc ?_ _) | (with_reducible refine Kd.C_drewN ?_ _) | (with_reducible refine Kd.C_drew ?_)))
       (case side6 => exact HC0_2.out)
       rintro e w69 ⟨v285, v288, v291, rfl, ho0, ho1, ho2, hb⟩
       refine ⟨_, rfl, ?_⟩
       have n0_ := Aside0.mk (Kd.R_elder' (by (with_reducible repeat (first | apply Kd.R_alloc | apply Kd.R_drewN | apply Kd.R_drew)); exact HO_258000.out) (Kd.R_base ho0) hb)
       have n1_ := Aside0.mk (Kd.R_mono (Kd.R_told (Kd.R_told (Kd.R_old (by (with_reducible repeat (first | apply Kd.R_alloc | apply Kd.R_drewN | apply Kd.R_drew)); exact HO_258001.out) hb) (Kd.R_base ho1)) (Kd.R_base ho2)) (fun _ h_ => h_.1))
       have n2_ := Aside0.mk (Kd.R_mono (Kd.R_told (Kd.R_told (Kd.R_old (by (with_reducible repeat (first | apply Kd.R_alloc | apply Kd.R_drewN | apply Kd.R_drew)); exact HO_258002.out) hb) (Kd.R_base ho1)) (Kd.R_base ho2)) (fun _ h_ => h_.1))
       have n3_ := Aside0.mk (Kd.R_elder' (by (with_reducible repeat (first | apply Kd.R_alloc | apply Kd.R_drewN | apply Kd.R_drew)); exact HO_270000.out) (Kd.R_base ho0) hb)
       have n4_ := Aside0.mk (Kd.R_mono (Kd.R_told (Kd.R_told (Kd.R_old (by (with_reducible repeat (first | apply Kd.R_alloc | apply Kd.R_drewN | apply Kd.R_drew)); exact HO_270001.out) hb) (Kd.R_base ho1)) (Kd.R_base ho2)) (fun _ h_ => h_.1))
       have n5_ := Aside0.mk (Kd.R_mono (Kd.R_told (Kd.R_told (Kd.R_old (by (with_reducible repeat (first | apply Kd.R_alloc | apply Kd.R_drewN | apply Kd.R_drew)); exact HO_270002.out) hb) (Kd.R_base ho1)) (Kd.R_base ho2)) (fun _ h_ => h_.1))
       have n6_ := Aside0.mk (Kd.R_elder' (by (with_reducible repeat (first | apply Kd.R_alloc | apply Kd.R_drewN | apply Kd.R_drew)); exact HO_283000.out) (Kd.R_base ho0) hb)
       have n7_ := Aside0.mk (Kd.R_mono (Kd.R_told (Kd.R_told (Kd.R_old (by (with_reducible repeat (first | apply Kd.R_alloc | apply Kd.R_drewN | apply Kd.R_drew)); exact HO_283001.out) hb) (Kd.R_base ho1)) (Kd.R_base ho2)) (fun _ h_ => h_.1))
       have n8_ := Aside0.mk (Kd.R_mono (Kd.R_told (Kd.R_told (Kd.R_old (by (with_reducible repeat (first | apply Kd.R_alloc | apply Kd.R_drewN | apply Kd.R_drew)); exact HO_283002.out) hb) (Kd.R_base ho1)) (Kd.R_base ho2)) (fun _ h_ => h_.1))
       have n9_ := Aside0.mk (Kd.R_lower (Kd.R_new' (Kd.R_new' (Kd.R_new' ho0 (Kd.R_lt (by (with_reducible repeat (first | apply Kd.R_alloc | apply Kd.R_drewN | apply Kd.R_drew)); exact HO_258000.out))) (Kd.R_lt (by (with_reducible repeat (first | apply Kd.R_alloc | apply Kd.R_drewN | apply Kd.R_drew)); exact HO_270000.out))) (Kd.R_lt (by (with_reducible repeat (first | apply Kd.R_alloc | apply Kd.R_drewN | apply Kd.R_drew)); exact HO_283000.out))) (below_size (by repeat (first | (with_reducible first | exact HB.out | apply below_alloc | apply pw_below_drewN | apply below_drew1 | refine below_set ?_ GE232.out | refine below_set ?_ GE257.out | refine below_set ?_ GE269.out | refine below_set ?_ GE282.out) | exact HB.out))))
       have n10_ := Aside0.mk (Kd.R_lower (Kd.R_new' (Kd.R_new' (Kd.R_new' (Kd.R_new' (Kd.R_new' (Kd.R_new' ho1 (Kd.R_lt (by (with_reducible repeat (first | apply Kd.R_alloc | apply Kd.R_drewN | apply Kd.R_drew)); exact HO_258001.out))) (Kd.R_lt (by (with_reducible repeat (first | apply Kd.R_alloc | apply Kd.R_drewN | apply Kd.R_drew)); exact HO_258002.out))) (Kd.R_lt (by (with_reducible repeat (first | apply Kd.R_alloc | apply Kd.R_drewN | apply Kd.R_drew)); exact HO_270001.out))) (Kd.R_lt (by (with_reducible repeat (first | apply Kd.R_alloc | apply Kd.R_drewN | apply Kd.R_drew)); exact HO_270002.out))) (Kd.R_lt (by (with_reducible repeat (first | apply Kd.R_alloc | apply Kd.R_drewN | apply Kd.R_drew)); exact HO_283001.out))) (Kd.R_lt (by (with_reducible repeat (first | apply Kd.R_alloc | apply Kd.R_drewN | apply Kd.R_drew)); exact HO_283002.out))) (below_size (by repeat (first | (with_reducible first | exact HB.out | apply below_alloc | apply pw_below_drewN | apply below_drew1 | refine below_set ?_ GE232.out | refine below_set ?_ GE257.out | refine below_set ?_ GE269.out | refine below_set ?_ GE282.out) | exact HB.out))))
       have n11_ := Aside0.mk (Kd.R_lower (Kd.R_new' (Kd.R_new' (Kd.R_new' (Kd.R_new' (Kd.R_new' (Kd.R_new' ho2 (Kd.R_lt (by (with_reducible repeat (first | apply Kd.R_alloc | apply Kd.R_drewN | apply Kd.R_drew)); exact HO_258001.out))) (Kd.R_lt (by (with_reducible repeat (first | apply Kd.R_alloc | apply Kd.R_drewN | apply Kd.R_drew)); exact HO_258002.out))) (Kd.R_lt (by (with_reducible repeat (first | apply Kd.R_alloc | apply Kd.R_drewN | apply Kd.R_drew)); exact HO_270001.out))) (Kd.R_lt (by (with_reducible repeat (first | apply Kd.R_alloc | apply Kd.R_drewN | apply Kd.R_drew)); exact HO_270002.out))) (Kd.R_lt (by (with_reducible repeat (first | apply Kd.R_alloc | apply Kd.R_drewN | apply Kd.R_drew)); exact HO_283001.out))) (Kd.R_lt (by (with_reducible repeat (first | apply Kd.R_alloc | apply Kd.R_drewN | apply Kd.R_drew)); exact HO_283002.out))) (below_size (by repeat (first | (with_reducible first | exact HB.out | apply below_alloc | apply pw_below_drewN | apply below_drew1 | refine below_set ?_ GE232.out | refine below_set ?_ GE257.out | refine below_set ?_ GE269.out | refine below_set ?_ GE282.out) | exact HB.out))))
       have n12_ := Aside0.mk (blk_below (g := gb232) (o := .cells #[.slice A0_0 l0_0.length c0_0, .slice A0_1 l0_1.length c0_1, .slice A0_2 l0_2.length c0_2, .int .i64 a0_3, .int .i64 a0_4] 25 (0, 0)) (by (with_reducible repeat (first | refine blk_drewN ?_ _ | refine blk_drew ?_ | refine blk_alloc ?_ _)); exact BK232.out) hb)
       have n13_ := Aside0.mk (blk_below (g := gb257) (o := .cells #[.slice Ao22 t245.length co22, .slice Ao25 t248.length co25, .slice Ao26 t251.length co26, .int .i64 t254, .int .i64 t255] 29 (0, 0)) (by (with_reducible repeat (first | refine blk_drewN ?_ _ | refine blk_drew ?_ | refine blk_alloc ?_ _)); exact BK257.out) hb)
       have n14_ := Aside0.mk (blk_below (g := gb269) (o := .cells #[.slice Ao30 t258.length co30, .slice Ao34 t261.length co34, .slice Ao35 t264.length co35, .int .i64 t267, .int .i64 t268] 29 (0, 0)) (by (with_reducible repeat (first | refine blk_drewN ?_ _ | refine blk_drew ?_ | refine blk_alloc ?_ _)); exact BK269.out) hb)
       have n15_ := Aside0.mk (blk_below (g := gb282) (o := .cells #[.slice Ao38 t270.length co38, .slice Ao43 t273.length co43, .slice Ao44 t276.length co44, .int .i64 t279, .int .i64 t280] 29 (0, 0)) (by (with_reducible repeat (first | refine blk_drewN ?_ _ | refine blk_drew ?_ | refine blk_alloc ?_ _)); exact BK282.out) hb)
       have n16_ := Aside0.mk (below_step (by repeat (first | (with_reducible first | exact HB.out | apply below_alloc | apply pw_below_drewN | apply below_drew1 | refine below_set ?_ GE232.out | refine below_set ?_ GE257.out | refine below_set ?_ GE269.out | refine below_set ?_ GE282.out) | exact HB.out)) hb)
       clear HO_258000
       clear HO_258001
       clear HO_258002
       clear HO_270000
       clear HO_270001
       clear HO_270002
       clear HO_283000
       clear HO_283001
       clear HO_283002
       clear BK232
       clear BK257
       clear BK269
       clear BK282
       clear HB
       have HO_258000 := n0_
       have HO_258001 := n1_
       have HO_258002 := n2_
       have HO_270000 := n3_
       have HO_270001 := n4_
       have HO_270002 := n5_
       have HO_283000 := n6_
       have HO_283001 := n7_
       have HO_283002 := n8_
       have HO286 := n9_
       have HO289 := n10_
       have HO292 := n11_
       have BK232 := n12_
       have BK257 := n13_
       have BK269 := n14_
       have BK282 := n15_
       have HB := n16_
       clear n0_ n1_ n2_ n3_ n4_ n5_ n6_ n7_ n8_ n9_ n10_ n11_ n12_ n13_ n14_ n15_ n16_
       (try clear hb)
       (try clear hb2)
       (try clear hk)
       (try clear hi)
       (try clear ho0)
       (try clear ho1)
       (try clear ho2)
       obtain ⟨Ao70, co70, eo70⟩ := Kd.R_slice HO286.out
       (first | subst eo70 | (injection eo70 with f1_ f2_ f3_; have f4_ := f1_.symm; have f5_ := f3_.symm; clear f1_ f2_ f3_; subst f4_; subst f5_))
       obtain ⟨Ao71, co71, eo71⟩ := Kd.R_slice HO289.out
       (first | subst eo71 | (injection eo71 with f1_ f2_ f3_; have f4_ := f1_.symm; have f5_ := f3_.symm; clear f1_ f2_ f3_; subst f4_; subst f5_))
       obtain ⟨Ao72, co72, eo72⟩ := Kd.R_slice HO292.out
       (first | subst eo72 | (injection eo72 with f1_ f2_ f3_; have f4_ := f1_.symm; have f5_ := f3_.symm; clear f1_ f2_ f3_; subst f4_; subst f5_))
       refine hK.out _ _ ⟨(blk_cell BK269.out 0).trans rfl, (blk_cell BK269.out 1).trans rfl, (blk_cell BK269.out 2).trans rfl, (blk_cell BK269.out 3).trans rfl, (blk_cell BK269.out 4).trans rfl, (blk_cell BK232.out 0).trans rfl, (blk_cell BK232.out 1).trans rfl, (blk_cell BK232.out 2).trans rfl, (blk_cell BK232.out 3).trans rfl, (blk_cell BK232.out 4).trans rfl⟩ (fun hHeld => ?_)
       clear hK K
       refine norm_ (a' := ?_) ?_ ?_
       rotate_left
       ·
        show Act.put _ (some 51) _ = _
        simp only [Act.put, List.setIfInBounds_toArray, List.set_cons_zero, List.set_cons_succ, i64_w, i32_w]
        rfl
       refine one_ (i := 3) (N := some 52) #[true, true, true, true, false] rfl rfl (by kernel_rfl) (by decide) (fun K hK => ?_)
       refine goes_ Try.func14 (by kernel_rfl) rfl #[.agg #[.slice Ao30 t258.length co30, .slice Ao34 t261.length co34, .slice Ao35 t264.length co35, .int .i64 t267, .int .i64 t268], .agg #[.slice Ao70 t284.length co70, .slice Ao71 t287.length co71, .slice Ao72 t290.length co72, .int .i64 t293, .int .i64 t294]] (by rfl) rfl rfl (by (try simp only [List.map_toArray, List.map_cons, List.map_nil]); first | done | rfl | (simp only [List.length_drop, List.length_take]; rfl)) ?_
       with_reducible refine (laws_eqMemory.calls kj62 _ _ t258 _ _ t261 _ _ t264 t267 t268 _ _ t284 _ _ t287 _ _ t290 t293 t294 t295 _ ?side1 ?side2 ?side3 ?side4 ?side5 ?side6 ?side7 ?side8 ?side9 ?side10 ?side11 ?side12 A66.out).mono ?_
       (case side1 => repeat (first | exact (Kd.R_reads' HO_270000.out).2.2 | (with_reducible refine Kd.C_alloc ?_ _) | (with_reducible refine Kd.C_drewN ?_ _) | (with_reducible refine Kd.C_drew ?_)))
       (case side2 => exact (Kd.R_reads' HO_270000.out).2.1)
       (case side3 => repeat (first | exact (Kd.R_reads' HO_270001.out).2.2 | (with_reducible refine Kd.C_alloc ?_ _) | (with_reducible refine Kd.C_drewN ?_ _) | (with_reducible refine Kd.C_drew ?_)))
       (case side4 => exact (Kd.R_reads' HO_270001.out).2.1)
       (case side5 => repeat (first | exact (Kd.R_reads' HO_270002.out).2.2 | (with_reducible refine Kd.C_alloc ?_ _) | (with_reducible refine Kd.C_drewN ?_ _) | (with_reducible refine Kd.C_drew ?_)))
       (case side6 => exact (Kd.R_reads' HO_270002.out).2.1)
       (case side7 => repeat (first | exact (Kd.R_reads' HO286.out).2.2 | (with_reducible refine Kd.C_alloc ?_ _) | (with_reducible refine Kd.C_drewN ?_ _) | (with_reducible refine Kd.C_drew ?_)))
       (case side8 => exact (Kd.R_reads' HO286.out).2.1)
       (case side9 => repeat (first | exact (Kd.R_reads' HO289.out).2.2 | (with_reducible refine Kd.C_alloc ?_ _) | (with_reducible refine Kd.C_drewN ?_ _) | (with_reducible refine Kd.C_drew ?_)))
       (case side10 => exact (Kd.R_reads' HO289.out).2.1)
       (case side11 => repeat (first | exact (Kd.R_reads' HO292.out).2.2 | (with_reducible refine Kd.C_alloc ?_ _) | (with_reducible refine Kd.C_drewN ?_ _) | (with_reducible refine Kd.C_drew ?_)))
       (case side12 => exact (Kd.R_reads' HO292.out).2.1)
       rintro e w73 ⟨rfl, hb⟩
       refine ⟨_, rfl, ?_⟩
       have n0_ := Aside0.mk (Kd.R_below (by (with_reducible repeat (first | apply Kd.R_alloc | apply Kd.R_drewN | apply Kd.R_drew)); exact HO_258000.out) hb)
       have n1_ := Aside0.mk (Kd.R_below (by (with_reducible repeat (first | apply Kd.R_alloc | apply Kd.R_drewN | apply Kd.R_drew)); exact HO_258001.out) hb)
       have n2_ := Aside0.mk (Kd.R_below (by (with_reducible repeat (first | apply Kd.R_alloc | apply Kd.R_drewN | apply Kd.R_drew)); exact HO_258002.out) hb)
       have n3_ := Aside0.mk (Kd.R_below (by (with_reducible repeat (first | apply Kd.R_alloc | apply Kd.R_drewN | apply Kd.R_drew)); exact HO_270000.out) hb)
       have n4_ := Aside0.mk (Kd.R_below (by (with_reducible repeat (first | apply Kd.R_alloc | apply Kd.R_drewN | apply Kd.R_drew)); exact HO_270001.out) hb)
       have n5_ := Aside0.mk (Kd.R_below (by (with_reducible repeat (first | apply Kd.R_alloc | apply Kd.R_drewN | apply Kd.R_drew)); exact HO_270002.out) hb)
       have n6_ := Aside0.mk (Kd.R_below (by (with_reducible repeat (first | apply Kd.R_alloc | apply Kd.R_drewN | apply Kd.R_drew)); exact HO_283000.out) hb)
       have n7_ := Aside0.mk (Kd.R_below (by (with_reducible repeat (first | apply Kd.R_alloc | apply Kd.R_drewN | apply Kd.R_drew)); exact HO_283001.out) hb)
       have n8_ := Aside0.mk (Kd.R_below (by (with_reducible repeat (first | apply Kd.R_alloc | apply Kd.R_drewN | apply Kd.R_drew)); exact HO_283002.out) hb)
       have n9_ := Aside0.mk (Kd.R_below (by (with_reducible repeat (first | apply Kd.R_alloc | apply Kd.R_drewN | apply Kd.R_drew)); exact HO286.out) hb)
       have n10_ := Aside0.mk (Kd.R_below (by (with_reducible repeat (first | apply Kd.R_alloc | apply Kd.R_drewN | apply Kd.R_drew)); exact HO289.out) hb)
       have n11_ := Aside0.mk (Kd.R_below (by (with_reducible repeat (first | apply Kd.R_alloc | apply Kd.R_drewN | apply Kd.R_drew)); exact HO292.out) hb)
       have n12_ := Aside0.mk (blk_below (g := gb232) (o := .cells #[.slice A0_0 l0_0.length c0_0, .slice A0_1 l0_1.length c0_1, .slice A0_2 l0_2.length c0_2, .int .i64 a0_3, .int .i64 a0_4] 25 (0, 0)) (by (with_reducible repeat (first | refine blk_drewN ?_ _ | refine blk_drew ?_ | refine blk_alloc ?_ _)); exact BK232.out) hb)
       have n13_ := Aside0.mk (blk_below (g := gb257) (o := .cells #[.slice Ao22 t245.length co22, .slice Ao25 t248.length co25, .slice Ao26 t251.length co26, .int .i64 t254, .int .i64 t255] 29 (0, 0)) (by (with_reducible repeat (first | refine blk_drewN ?_ _ | refine blk_drew ?_ | refine blk_alloc ?_ _)); exact BK257.out) hb)
       have n14_ := Aside0.mk (blk_below (g := gb269) (o := .cells #[.slice Ao30 t258.length co30, .slice Ao34 t261.length co34, .slice Ao35 t264.length co35, .int .i64 t267, .int .i64 t268] 29 (0, 0)) (by (with_reducible repeat (first | refine blk_drewN ?_ _ | refine blk_drew ?_ | refine blk_alloc ?_ _)); exact BK269.out) hb)
       have n15_ := Aside0.mk (blk_below (g := gb282) (o := .cells #[.slice Ao38 t270.length co38, .slice Ao43 t273.length co43, .slice Ao44 t276.length co44, .int .i64 t279, .int .i64 t280] 29 (0, 0)) (by (with_reducible repeat (first | refine blk_drewN ?_ _ | refine blk_drew ?_ | refine blk_alloc ?_ _)); exact BK282.out) hb)
       have n16_ := Aside0.mk (below_step (by repeat (first | (with_reducible first | exact HB.out | apply below_alloc | apply pw_below_drewN | apply below_drew1 | refine below_set ?_ GE232.out | refine below_set ?_ GE257.out | refine below_set ?_ GE269.out | refine below_set ?_ GE282.out) | exact HB.out)) hb)
       clear HO_258000
       clear HO_258001
       clear HO_258002
       clear HO_270000
       clear HO_270001
       clear HO_270002
       clear HO_283000
       clear HO_283001
       clear HO_283002
       clear HO286
       clear HO289
       clear HO292
       clear BK232
       clear BK257
       clear BK269
       clear BK282
       clear HB
       have HO_258000 := n0_
       have HO_258001 := n1_
       have HO_258002 := n2_
       have HO_270000 := n3_
       have HO_270001 := n4_
       have HO_270002 := n5_
       have HO_283000 := n6_
       have HO_283001 := n7_
       have HO_283002 := n8_
       have HO286 := n9_
       have HO289 := n10_
       have HO292 := n11_
       have BK232 := n12_
       have BK257 := n13_
       have BK269 := n14_
       have BK282 := n15_
       have HB := n16_
       clear n0_ n1_ n2_ n3_ n4_ n5_ n6_ n7_ n8_ n9_ n10_ n11_ n12_ n13_ n14_ n15_ n16_
       (try clear hb)
       (try clear hb2)
       (try clear hk)
       (try clear hi)
       refine hK.out _ _ ⟨(blk_cell BK269.out 0).trans rfl, (blk_cell BK269.out 1).trans rfl, (blk_cell BK269.out 2).trans rfl, (blk_cell BK269.out 3).trans rfl, (blk_cell BK269.out 4).trans rfl, (blk_cell BK232.out 0).trans rfl, (blk_cell BK232.out 1).trans rfl, (blk_cell BK232.out 2).trans rfl, (blk_cell BK232.out 3).trans rfl, (blk_cell BK232.out 4).trans rfl⟩ (fun hHeld => ?_)
       clear hK K
       refine norm_ (a' := ?_) ?_ ?_
       rotate_left
       ·
        show Act.put _ (some 52) _ = _
        simp only [Act.put, List.setIfInBounds_toArray, List.set_cons_zero, List.set_cons_succ, i64_w, i32_w]
        rfl
       refine pure_ (i := 4) (N := some 53) (v := ?_) (a' := ?_) #[true, true, true, true, true] rfl rfl (by kernel_rfl) (fun _ _ _ h => h) (Or.inl ⟨by rfl, ?_⟩) ?_ ?_
       rotate_left
       ·
        intro w'
        go_simp
        with_reducible rfl
       rotate_left
       ·
        simp only [Act.put, List.setIfInBounds_toArray, List.set_cons_zero, List.set_cons_succ, i64_w, i32_w]
        rfl
       refine done_ (by kernel_rfl) ?_
       go_upto_if 53 with (fail)
       go_cut [] (fun wc => ∃ (kq : Nat), Aside0 (laws_FnExactSummed.j3 kq a1 a2 t256 t281 l0_0 l0_1 l0_2 a0_3 a0_4 t245 t248 t251 t254 t255 t258 t261 t264 t267 t268 t270 t273 t276 t279 t280 = some r) ∧ Aside0 (kq ≤ kj62) ∧ Aside0 (Kd.R k96 96 wc w.heap.size (fun k_ => some k_ ≠ ((.slice Ao30 t258.length co30) : Value).ownBlock ∧ some k_ ≠ ((.slice Ao38 t270.length co38) : Value).ownBlock) (.slice Ao22 t245.length co22) t245) ∧ Aside0 (Kd.R (Kd.int .i64) 3 wc w.heap.size (fun k_ => some k_ ≠ ((.slice Ao26 t251.length co26) : Value).ownBlock ∧ some k_ ≠ ((.slice Ao34 t261.length co34) : Value).ownBlock ∧ some k_ ≠ ((.slice Ao35 t264.length co35) : Value).ownBlock ∧ some k_ ≠ ((.slice Ao43 t273.length co43) : Value).ownBlock ∧ some k_ ≠ ((.slice Ao44 t276.length co44) : Value).ownBlock) (.slice Ao25 t248.length co25) t248) ∧ Aside0 (Kd.R (Kd.int .i64) 3 wc w.heap.size (fun k_ => some k_ ≠ ((.slice Ao25 t248.length co25) : Value).ownBlock ∧ some k_ ≠ ((.slice Ao34 t261.length co34) : Value).ownBlock ∧ some k_ ≠ ((.slice Ao35 t264.length co35) : Value).ownBlock ∧ some k_ ≠ ((.slice Ao43 t273.length co43) : Value).ownBlock ∧ some k_ ≠ ((.slice Ao44 t276.length co44) : Value).ownBlock) (.slice Ao26 t251.length co26) t251) ∧ Aside0 (Kd.R k96 96 wc w.heap.size (fun k_ => some k_ ≠ ((.slice Ao22 t245.length co22) : Value).ownBlock ∧ some k_ ≠ ((.slice Ao38 t270.length co38) : Value).ownBlock) (.slice Ao30 t258.length co30) t258) ∧ Aside0 (Kd.R (Kd.int .i64) 3 wc w.heap.size (fun k_ => some k_ ≠ ((.slice Ao25 t248.length co25) : Value).ownBlock ∧ some k_ ≠ ((.slice Ao26 t251.length co26) : Value).ownBlock ∧ some k_ ≠ ((.slice Ao35 t264.length co35) : Value).ownBlock ∧ some k_ ≠ ((.slice Ao43 t273.length co43) : Value).ownBlock ∧ some k_ ≠ ((.slice Ao44 t276.length co44) : Value).ownBlock) (.slice Ao34 t261.length co34) t261) ∧ Aside0 (Kd.R (Kd.int .i64) 3 wc w.heap.size (fun k_ => some k_ ≠ ((.slice Ao25 t248.length co25) : Value).ownBlock ∧ some k_ ≠ ((.slice Ao26 t251.length co26) : Value).ownBlock ∧ some k_ ≠ ((.slice Ao34 t261.length co34) : Value).ownBlock ∧ some k_ ≠ ((.slice Ao43 t273.length co43) : Value).ownBlock ∧ some k_ ≠ ((.slice Ao44 t276.length co44) : Value).ownBlock) (.slice Ao35 t264.length co35) t264) ∧ Aside0 (Kd.R k96 96 wc w.heap.size (fun k_ => some k_ ≠ ((.slice Ao22 t245.length co22) : Value).ownBlock ∧ some k_ ≠ ((.slice Ao30 t258.length co30) : Value).ownBlock) (.slice Ao38 t270.length co38) t270) ∧ Aside0 (Kd.R (Kd.int .i64) 3 wc w.heap.size (fun k_ => some k_ ≠ ((.slice Ao25 t248.length co25) : Value).ownBlock ∧ some k_ ≠ ((.slice Ao26 t251.length co26) : Value).ownBlock ∧ some k_ ≠ ((.slice Ao34 t261.length co34) : Value).ownBlock ∧ some k_ ≠ ((.slice Ao35 t264.length co35) : Value).ownBlock ∧ some k_ ≠ ((.slice Ao44 t276.length co44) : Value).ownBlock) (.slice Ao43 t273.length co43) t273) ∧ Aside0 (Kd.R (Kd.int .i64) 3 wc w.heap.size (fun k_ => some k_ ≠ ((.slice Ao25 t248.length co25) : Value).ownBlock ∧ some k_ ≠ ((.slice Ao26 t251.length co26) : Value).ownBlock ∧ some k_ ≠ ((.slice Ao34 t261.length co34) : Value).ownBlock ∧ some k_ ≠ ((.slice Ao35 t264.length co35) : Value).ownBlock ∧ some k_ ≠ ((.slice Ao43 t273.length co43) : Value).ownBlock) (.slice Ao44 t276.length co44) t276) ∧ Aside0 (wc.heap[gb232]? = some (.cells #[(.slice A0_0 l0_0.length c0_0), (.slice A0_1 l0_1.length c0_1), (.slice A0_2 l0_2.length c0_2), .int .i64 a0_3, .int .i64 a0_4] 25 (0, 0))) ∧ Aside0 (wc.heap[gb257]? = some (.cells #[(.slice Ao22 t245.length co22), (.slice Ao25 t248.length co25), (.slice Ao26 t251.length co26), .int .i64 t254, .int .i64 t255] 29 (0, 0))) ∧ Aside0 (wc.heap[gb269]? = some (.cells #[(.slice Ao30 t258.length co30), (.slice Ao34 t261.length co34), (.slice Ao35 t264.length co35), .int .i64 t267, .int .i64 t268] 29 (0, 0))) ∧ Aside0 (wc.heap[gb282]? = some (.cells #[(.slice Ao38 t270.length co38), (.slice Ao43 t273.length co43), (.slice Ao44 t276.length co44), .int .i64 t279, .int .i64 t280] 29 (0, 0))) ∧ Aside0 (Below w.heap.size w wc))
       case first =>
        have H := HC67.out
        clear HC67
        by_cases c74 : t295 = true
        ·
         subst c74
         have H1 : (laws_FnExactSummed.j3 kj62 a1 a2 t256 t281 l0_0 l0_1 l0_2 a0_3 a0_4 t245 t248 t251 t254 t255 t258 t261 t264 t267 t268 t270 t273 t276 t279 t280) = some r := by rw [if_pos rfl] at H; exact H
         clear H
         have H := H1
         clear H1
         have H' := Aside0.mk H
         clear H
         go_wp2
         go_meet
         case rel => exact ⟨_, H', ⟨by have := HJ4.out; have := HJ13.out; have := HJ62.out; first | omega | exact Nat.le_refl _⟩, ⟨by (with_reducible repeat (first | apply Kd.R_alloc | apply Kd.R_drewN | apply Kd.R_drew)); exact Kd.R_mono HO_258000.out (fun _ hk => ⟨hk.1.1, hk.1.2⟩)⟩, ⟨by (with_reducible repeat (first | apply Kd.R_alloc | apply Kd.R_drewN | apply Kd.R_drew)); exact Kd.R_mono HO_258001.out (fun _ hk => ⟨hk.1.1.1, ⟨hk.1.1.2.1, ⟨hk.1.1.2.2.1, ⟨hk.1.1.2.2.2.1, hk.1.1.2.2.2.2⟩⟩⟩⟩)⟩, ⟨by (with_reducible repeat (first | apply Kd.R_alloc | apply Kd.R_drewN | apply Kd.R_drew)); exact Kd.R_mono HO_258002.out (fun _ hk => ⟨hk.1.1.1, ⟨hk.1.1.2.1, ⟨hk.1.1.2.2.1, ⟨hk.1.1.2.2.2.1, hk.1.1.2.2.2.2⟩⟩⟩⟩)⟩, ⟨by (with_reducible repeat (first | apply Kd.R_alloc | apply Kd.R_drewN | apply Kd.R_drew)); exact Kd.R_mono HO_270000.out (fun _ hk => ⟨hk.1.1, hk.1.2⟩)⟩, ⟨by (with_reducible repeat (first | apply Kd.R_alloc | apply Kd.R_drewN | apply Kd.R_drew)); exact Kd.R_mono HO_270001.out (fun _ hk => ⟨hk.1.1.1, ⟨hk.1.1.2.1, ⟨hk.1.1.2.2.1, ⟨hk.1.1.2.2.2.1, hk.1.1.2.2.2.2⟩⟩⟩⟩)⟩, ⟨by (with_reducible repeat (first | apply Kd.R_alloc | apply Kd.R_drewN | apply Kd.R_drew)); exact Kd.R_mono HO_270002.out (fun _ hk => ⟨hk.1.1.1, ⟨hk.1.1.2.1, ⟨hk.1.1.2.2.1, ⟨hk.1.1.2.2.2.1, hk.1.1.2.2.2.2⟩⟩⟩⟩)⟩, ⟨by (with_reducible repeat (first | apply Kd.R_alloc | apply Kd.R_drewN | apply Kd.R_drew)); exact Kd.R_mono HO_283000.out (fun _ hk => ⟨hk.1.1, hk.1.2⟩)⟩, ⟨by (with_reducible repeat (first | apply Kd.R_alloc | apply Kd.R_drewN | apply Kd.R_drew)); exact Kd.R_mono HO_283001.out (fun _ hk => ⟨hk.1.1.1, ⟨hk.1.1.2.1, ⟨hk.1.1.2.2.1, ⟨hk.1.1.2.2.2.1, hk.1.1.2.2.2.2⟩⟩⟩⟩)⟩, ⟨by (with_reducible repeat (first | apply Kd.R_alloc | apply Kd.R_drewN | apply Kd.R_drew)); exact Kd.R_mono HO_283002.out (fun _ hk => ⟨hk.1.1.1, ⟨hk.1.1.2.1, ⟨hk.1.1.2.2.1, ⟨hk.1.1.2.2.2.1, hk.1.1.2.2.2.2⟩⟩⟩⟩)⟩, ⟨by (with_reducible repeat (first | refine blk_drewN ?_ _ | refine blk_drew ?_ | refine blk_alloc ?_ _)); exact BK232.out⟩, ⟨by (with_reducible repeat (first | refine blk_drewN ?_ _ | refine blk_drew ?_ | refine blk_alloc ?_ _)); exact BK257.out⟩, ⟨by (with_reducible repeat (first | refine blk_drewN ?_ _ | refine blk_drew ?_ | refine blk_alloc ?_ _)); exact BK269.out⟩, ⟨by (with_reducible repeat (first | refine blk_drewN ?_ _ | refine blk_drew ?_ | refine blk_alloc ?_ _)); exact BK282.out⟩, ⟨by repeat (first | (with_reducible first | exact HB.out | apply below_alloc | apply pw_below_drewN | apply below_drew1 | refine below_set ?_ GE232.out | refine below_set ?_ GE257.out | refine below_set ?_ GE269.out | refine below_set ?_ GE282.out) | exact HB.out)⟩⟩
        ·
         replace c74 := Bool.eq_false_iff.mpr c74
         subst c74
         have H1 : (some false) = some r := by rw [if_neg (show ¬ (false = true) by decide)] at H; exact H
         clear H
         have H := H1
         clear H1
         obtain rfl := Option.some.inj H
         go_wp2
         go_ret
         exact ⟨by first | rfl | (simp [errW_none, errW_some] <;> rfl) | (simp [*, errW_none, errW_some] <;> rfl), by repeat (first | (with_reducible first | exact HB.out | apply below_alloc | apply pw_below_drewN | apply below_drew1 | refine below_set ?_ GE232.out | refine below_set ?_ GE257.out | refine below_set ?_ GE269.out | refine below_set ?_ GE282.out) | exact HB.out)⟩
       case rest =>
        clear HC67
        try clear c1
        try clear c2
        try clear p2
        try clear c3
        try clear c4
        try clear c5
        try clear c6
        try clear c7
        try clear c9
        try clear c9b0
        try clear c10
        try clear c11
        try clear c12
        try clear c13
        try clear c14
        try clear c23
        try clear c31
        try clear c32
        try clear c39
        try clear c40
        try clear c41
        try clear c46
        try clear c47
        try clear c48
        try clear c49
        try clear c51
        try clear c52
        try clear c55
        try clear c56
        try clear c57
        try clear c59
        try clear c60
        try clear c64
        try clear c74
        try clear hcz15_0
        try clear hcz15_1
        try clear hcz15_2
        try clear hcz15_3
        try clear hcz15_4
        try clear hcz24_0
        try clear hcz24_1
        try clear hcz24_2
        try clear hcz24_3
        try clear hcz24_4
        try clear hcz27_0
        try clear hcz27_1
        try clear hcz27_2
        try clear hcz27_3
        try clear hcz27_4
        try clear hcz33_0
        try clear hcz33_1
        try clear hcz33_2
        try clear hcz33_3
        try clear hcz33_4
        try clear hcz42_0
        try clear hcz42_1
        try clear hcz42_2
        try clear hcz42_3
        try clear hcz42_4
        try clear hcz50_0
        try clear hcz50_1
        try clear hcz50_2
        try clear hcz50_3
        try clear hcz50_4
        try clear hcz53_0
        try clear hcz53_1
        try clear hcz53_2
        try clear hcz53_3
        try clear hcz53_4
        try clear hcz58_0
        try clear hcz58_1
        try clear hcz58_2
        try clear hcz58_3
        try clear hcz58_4
        try clear hcz61_0
        try clear hcz61_1
        try clear hcz61_2
        try clear hcz61_3
        try clear hcz61_4
        try clear hcz7_0
        try clear hcz7_1
        try clear hcz7_2
        try clear hcz7_3
        try clear hcz7_4
        try clear hfz15_0
        try clear hfz15_1
        try clear hfz15_2
        try clear hfz15_3
        try clear hfz15_4
        try clear hfz24_0
        try clear hfz24_1
        try clear hfz24_2
        try clear hfz24_3
        try clear hfz24_4
        try clear hfz27_0
        try clear hfz27_1
        try clear hfz27_2
        try clear hfz27_3
        try clear hfz27_4
        try clear hfz33_0
        try clear hfz33_1
        try clear hfz33_2
        try clear hfz33_3
        try clear hfz33_4
        try clear hfz42_0
        try clear hfz42_1
        try clear hfz42_2
        try clear hfz42_3
        try clear hfz42_4
        try clear hfz50_0
        try clear hfz50_1
        try clear hfz50_2
        try clear hfz50_3
        try clear hfz50_4
        try clear hfz53_0
        try clear hfz53_1
        try clear hfz53_2
        try clear hfz53_3
        try clear hfz53_4
        try clear hfz58_0
        try clear hfz58_1
        try clear hfz58_2
        try clear hfz58_3
        try clear hfz58_4
        try clear hfz61_0
        try clear hfz61_1
        try clear hfz61_2
        try clear hfz61_3
        try clear hfz61_4
        try clear hfz7_0
        try clear hfz7_1
        try clear hfz7_2
        try clear hfz7_3
        try clear hfz7_4
        try clear p2
        obtain ⟨kq, HA, HJ66, HO_258000, HO_258001, HO_258002, HO_270000, HO_270001, HO_270002, HO_283000, HO_283001, HO_283002, BK232, BK257, BK269, BK282, HB⟩ := hcut
        cases kq with
        | zero => exact absurd HA.out (by simp [laws_FnExactSummed.j3])
        | succ kj66 =>
         have H := HA.out
         clear HA
         simp only [laws_FnExactSummed.j3] at H
         replace H := Option.bind_eq_some_iff.mp H
         obtain ⟨⟨t296, t297, t298, t299⟩, A750, H⟩ := H
         replace H : (if t296 < 0 then (laws_FnExactSummed.j4 kj66 a1 a2 t256 true l0_0 l0_1 l0_2 a0_3 a0_4 t245 t248 t251 t254 t255 t270 t273 t276 t279 t280) else ((laws_eqMemory.f kj66 t270 t273 t276 t279 t280 t245 t248 t251 t254 t255).bind fun t300 => (if t300 = true then (laws_FnExactSummed.j4 kj66 a1 a2 t256 (t281 != t256) l0_0 l0_1 l0_2 a0_3 a0_4 t245 t248 t251 t254 t255 t270 t273 t276 t279 t280) else (laws_FnExactSummed.j4 kj66 a1 a2 t256 true l0_0 l0_1 l0_2 a0_3 a0_4 t245 t248 t251 t254 t255 t270 t273 t276 t279 t280)))) = some r := H
         have A75 := Aside0.mk A750
         clear A750
         have HC76 := Aside0.mk H
         clear H
         have hnb77 := NB269_232.out
         have hnc77 := NB232_269.out
         have hnb78 := NB269_257.out
         have hnc78 := NB257_269.out
         have hnb79 := NB269_282.out
         have hnc79 := NB282_269.out
         have hcz80_0 : wc.cell? ⟨gb269, 0, none⟩ = some (.slice Ao30 t258.length co30) := (blk_cell BK269.out 0).trans rfl
         have hcz80_1 : wc.cell? ⟨gb269, 1, none⟩ = some (.slice Ao34 t261.length co34) := (blk_cell BK269.out 1).trans rfl
         have hcz80_2 : wc.cell? ⟨gb269, 2, none⟩ = some (.slice Ao35 t264.length co35) := (blk_cell BK269.out 2).trans rfl
         have hcz80_3 : wc.cell? ⟨gb269, 3, none⟩ = some (.int .i64 t267) := (blk_cell BK269.out 3).trans rfl
         have hcz80_4 : wc.cell? ⟨gb269, 4, none⟩ = some (.int .i64 t268) := (blk_cell BK269.out 4).trans rfl
         have hfz80_0 := blk_frozen BK269.out 0
         have hfz80_1 := blk_frozen BK269.out 1
         have hfz80_2 := blk_frozen BK269.out 2
         have hfz80_3 := blk_frozen BK269.out 3
         have hfz80_4 := blk_frozen BK269.out 4
         go_upto_region 14 with (first | ((with_reducible refine gate_callee (f := 15) rfl ?_); refine goesL_ (some 56) rfl rfl Try.func15 (by kernel_rfl) rfl #[.agg #[.slice Ao30 t258.length co30, .slice Ao34 t261.length co34, .slice Ao35 t264.length co35, .int .i64 t267, .int .i64 t268], .int .i64 1] rfl (by (try simp only [List.map_toArray, List.map_cons, List.map_nil]); first | done | rfl | (simp only [List.length_drop, List.length_take]; rfl)) ?_; (with_reducible refine (laws_markMemory.calls kj66 (fun k_ => some k_ = (.slice Ao30 t258.length co30 : Value).ownBlock) (.slice Ao30 t258.length co30) t258 (fun k_ => some k_ = (.slice Ao34 t261.length co34 : Value).ownBlock) (.slice Ao34 t261.length co34) t261 (fun k_ => some k_ = (.slice Ao35 t264.length co35 : Value).ownBlock) (.slice Ao35 t264.length co35) t264 t267 t268 1 t296 t297 t298 t299 w _ ?side1 ?side2 ?side3 ?side4 ?side5 ?side6 A75.out).mono ?_); (case side1 => repeat (first | (with_reducible first | exact HB.out | apply below_alloc | apply pw_below_drewN | apply below_drew1 | refine below_set ?_ GE232.out | refine below_set ?_ GE257.out | refine below_set ?_ GE269.out | refine below_set ?_ GE282.out) | exact HB.out)); (case side2 => exact Kd.R_tight rfl HO_270000.out); (case side3 => exact Kd.R_tight rfl HO_270001.out); (case side4 => exact fun k_ e_ => (HO_270001.out.1 k_ e_.symm).2.2.1); (case side5 => exact Kd.R_tight rfl HO_270002.out); (case side6 => exact fun k_ e_ => (HO_270002.out.1 k_ e_.symm).2.2.1); rintro e w81 ⟨rfl, hy0, hy1, hy2, hb, hkp⟩; refine ⟨_, rfl, ?_⟩; have n0_ := Aside0.mk (Kd.R_mono (ok' := fun k_ => some k_ ≠ (.slice Ao30 t258.length co30 : Value).ownBlock ∧ some k_ ≠ (.slice Ao38 t270.length co38 : Value).ownBlock) (Kd.R_keptB ((Kd.R_apart' (Kd.R_apart' HO_258000.out (Kd.R_typed HO_270001.out) (by decide)) (Kd.R_typed HO_270002.out) (by decide))) hkp (fun k_ hk_ hs_ => Or.elim hs_ (fun e_ => (hk_.1.1.1) e_) (fun e_ => Or.elim e_ (fun e_ => (hk_.1.2) e_) (fun e_ => (hk_.2) e_)))) (fun k_ hk_ => ⟨hk_.1.1.1.1, hk_.1.1.1.2⟩)); have n1_ := Aside0.mk (Kd.R_mono (ok' := fun k_ => some k_ ≠ (.slice Ao26 t251.length co26 : Value).ownBlock ∧ some k_ ≠ (.slice Ao34 t261.length co34 : Value).ownBlock ∧ some k_ ≠ (.slice Ao35 t264.length co35 : Value).ownBlock ∧ some k_ ≠ (.slice Ao43 t273.length co43 : Value).ownBlock ∧ some k_ ≠ (.slice Ao44 t276.length co44 : Value).ownBlock) (Kd.R_keptB ((Kd.R_apart' HO_258001.out (Kd.R_typed HO_270000.out) (by decide))) hkp (fun k_ hk_ hs_ => Or.elim hs_ (fun e_ => (hk_.2) e_) (fun e_ => Or.elim e_ (fun e_ => (hk_.1.2.1) e_) (fun e_ => (hk_.1.2.2.1) e_)))) (fun k_ hk_ => ⟨hk_.1.1.1, hk_.1.1.2.1, hk_.1.1.2.2.1, hk_.1.1.2.2.2.1, hk_.1.1.2.2.2.2⟩)); have n2_ := Aside0.mk (Kd.R_mono (ok' := fun k_ => some k_ ≠ (.slice Ao25 t248.length co25 : Value).ownBlock ∧ some k_ ≠ (.slice Ao34 t261.length co34 : Value).ownBlock ∧ some k_ ≠ (.slice Ao35 t264.length co35 : Value).ownBlock ∧ some k_ ≠ (.slice Ao43 t273.length co43 : Value).ownBlock ∧ some k_ ≠ (.slice Ao44 t276.length co44 : Value).ownBlock) (Kd.R_keptB ((Kd.R_apart' HO_258002.out (Kd.R_typed HO_270000.out) (by decide))) hkp (fun k_ hk_ hs_ => Or.elim hs_ (fun e_ => (hk_.2) e_) (fun e_ => Or.elim e_ (fun e_ => (hk_.1.2.1) e_) (fun e_ => (hk_.1.2.2.1) e_)))) (fun k_ hk_ => ⟨hk_.1.1.1, hk_.1.1.2.1, hk_.1.1.2.2.1, hk_.1.1.2.2.2.1, hk_.1.1.2.2.2.2⟩)); have n3_ := Aside0.mk (Kd.R_reok rfl hy0 (fun k_ e_ => HO_270000.out.1 k_ e_)); have n4_ := Aside0.mk (Kd.R_reok rfl hy1 (fun k_ e_ => HO_270001.out.1 k_ e_)); have n5_ := Aside0.mk (Kd.R_reok rfl hy2 (fun k_ e_ => HO_270002.out.1 k_ e_)); have n6_ := Aside0.mk (Kd.R_mono (ok' := fun k_ => some k_ ≠ (.slice Ao22 t245.length co22 : Value).ownBlock ∧ some k_ ≠ (.slice Ao30 t258.length co30 : Value).ownBlock) (Kd.R_keptB ((Kd.R_apart' (Kd.R_apart' HO_283000.out (Kd.R_typed HO_270001.out) (by decide)) (Kd.R_typed HO_270002.out) (by decide))) hkp (fun k_ hk_ hs_ => Or.elim hs_ (fun e_ => (hk_.1.1.2) e_) (fun e_ => Or.elim e_ (fun e_ => (hk_.1.2) e_) (fun e_ => (hk_.2) e_)))) (fun k_ hk_ => ⟨hk_.1.1.1.1, hk_.1.1.1.2⟩)); have n7_ := Aside0.mk (Kd.R_mono (ok' := fun k_ => some k_ ≠ (.slice Ao25 t248.length co25 : Value).ownBlock ∧ some k_ ≠ (.slice Ao26 t251.length co26 : Value).ownBlock ∧ some k_ ≠ (.slice Ao34 t261.length co34 : Value).ownBlock ∧ some k_ ≠ (.slice Ao35 t264.length co35 : Value).ownBlock ∧ some k_ ≠ (.slice Ao44 t276.length co44 : Value).ownBlock) (Kd.R_keptB ((Kd.R_apart' HO_283001.out (Kd.R_typed HO_270000.out) (by decide))) hkp (fun k_ hk_ hs_ => Or.elim hs_ (fun e_ => (hk_.2) e_) (fun e_ => Or.elim e_ (fun e_ => (hk_.1.2.2.1) e_) (fun e_ => (hk_.1.2.2.2.1) e_)))) (fun k_ hk_ => ⟨hk_.1.1.1, hk_.1.1.2.1, hk_.1.1.2.2.1, hk_.1.1.2.2.2.1, hk_.1.1.2.2.2.2⟩)); have n8_ := Aside0.mk (Kd.R_mono (ok' := fun k_ => some k_ ≠ (.slice Ao25 t248.length co25 : Value).ownBlock ∧ some k_ ≠ (.slice Ao26 t251.length co26 : Value).ownBlock ∧ some k_ ≠ (.slice Ao34 t261.length co34 : Value).ownBlock ∧ some k_ ≠ (.slice Ao35 t264.length co35 : Value).ownBlock ∧ some k_ ≠ (.slice Ao43 t273.length co43 : Value).ownBlock) (Kd.R_keptB ((Kd.R_apart' HO_283002.out (Kd.R_typed HO_270000.out) (by decide))) hkp (fun k_ hk_ hs_ => Or.elim hs_ (fun e_ => (hk_.2) e_) (fun e_ => Or.elim e_ (fun e_ => (hk_.1.2.2.1) e_) (fun e_ => (hk_.1.2.2.2.1) e_)))) (fun k_ hk_ => ⟨hk_.1.1.1, hk_.1.1.2.1, hk_.1.1.2.2.1, hk_.1.1.2.2.2.1, hk_.1.1.2.2.2.2⟩)); have n9_ := Aside0.mk (blk_kept (by (with_reducible repeat (first | refine blk_drewN ?_ _ | refine blk_drew ?_ | refine blk_alloc ?_ _)); exact BK232.out) hkp (fun hs_ => Or.elim hs_ (fun e_ => (fun e_ => (Kd.R_ne HO_270000.out BK232.out (by decide)) e_) e_) (fun e_ => Or.elim e_ (fun e_ => (fun e_ => (Kd.R_ne HO_270001.out BK232.out (by decide)) e_) e_) (fun e_ => (fun e_ => (Kd.R_ne HO_270002.out BK232.out (by decide)) e_) e_)))); have n10_ := Aside0.mk (blk_kept (by (with_reducible repeat (first | refine blk_drewN ?_ _ | refine blk_drew ?_ | refine blk_alloc ?_ _)); exact BK257.out) hkp (fun hs_ => Or.elim hs_ (fun e_ => (fun e_ => (Kd.R_ne HO_270000.out BK257.out (by decide)) e_) e_) (fun e_ => Or.elim e_ (fun e_ => (fun e_ => (Kd.R_ne HO_270001.out BK257.out (by decide)) e_) e_) (fun e_ => (fun e_ => (Kd.R_ne HO_270002.out BK257.out (by decide)) e_) e_)))); have n11_ := Aside0.mk (blk_kept (by (with_reducible repeat (first | refine blk_drewN ?_ _ | refine blk_drew ?_ | refine blk_alloc ?_ _)); exact BK269.out) hkp (fun hs_ => Or.elim hs_ (fun e_ => (fun e_ => (Kd.R_ne HO_270000.out BK269.out (by decide)) e_) e_) (fun e_ => Or.elim e_ (fun e_ => (fun e_ => (Kd.R_ne HO_270001.out BK269.out (by decide)) e_) e_) (fun e_ => (fun e_ => (Kd.R_ne HO_270002.out BK269.out (by decide)) e_) e_)))); have n12_ := Aside0.mk (blk_kept (by (with_reducible repeat (first | refine blk_drewN ?_ _ | refine blk_drew ?_ | refine blk_alloc ?_ _)); exact BK282.out) hkp (fun hs_ => Or.elim hs_ (fun e_ => (fun e_ => (Kd.R_ne HO_270000.out BK282.out (by decide)) e_) e_) (fun e_ => Or.elim e_ (fun e_ => (fun e_ => (Kd.R_ne HO_270001.out BK282.out (by decide)) e_) e_) (fun e_ => (fun e_ => (Kd.R_ne HO_270002.out BK282.out (by decide)) e_) e_)))); have n13_ := Aside0.mk (hb); clear HO_258000; clear HO_258001; clear HO_258002; clear HO_270000; clear HO_270001; clear HO_270002; clear HO_283000; clear HO_283001; clear HO_283002; clear BK232; clear BK257; clear BK269; clear BK282; clear HB; have HO_258000 := n0_; have HO_258001 := n1_; have HO_258002 := n2_; have HO_270000 := n3_; have HO_270001 := n4_; have HO_270002 := n5_; have HO_283000 := n6_; have HO_283001 := n7_; have HO_283002 := n8_; have BK232 := n9_; have BK257 := n10_; have BK269 := n11_; have BK282 := n12_; have HB := n13_; clear n0_ n1_ n2_ n3_ n4_ n5_ n6_ n7_ n8_ n9_ n10_ n11_ n12_ n13_; (try clear hb); (try clear hkp); (try clear hy0); (try clear hy1); (try clear hy2)))
         (try simp only [Act.put, List.setIfInBounds_toArray, List.set_cons_zero, List.set_cons_succ])
         go_cut [69] (fun v69 wc => ∃ (kq : Nat) (x69_75 : Bool), v69 = .bool x69_75 ∧ Aside0 (laws_FnExactSummed.j4 kq a1 a2 t256 x69_75 l0_0 l0_1 l0_2 a0_3 a0_4 t245 t248 t251 t254 t255 t270 t273 t276 t279 t280 = some r) ∧ Aside0 (kq ≤ kj66) ∧ Aside0 (Kd.R k96 96 wc w.heap.size (fun k_ => some k_ ≠ ((.slice Ao30 t258.length co30) : Value).ownBlock ∧ some k_ ≠ ((.slice Ao38 t270.length co38) : Value).ownBlock) (.slice Ao22 t245.length co22) t245) ∧ Aside0 (Kd.R (Kd.int .i64) 3 wc w.heap.size (fun k_ => some k_ ≠ ((.slice Ao26 t251.length co26) : Value).ownBlock ∧ some k_ ≠ ((.slice Ao34 t261.length co34) : Value).ownBlock ∧ some k_ ≠ ((.slice Ao35 t264.length co35) : Value).ownBlock ∧ some k_ ≠ ((.slice Ao43 t273.length co43) : Value).ownBlock ∧ some k_ ≠ ((.slice Ao44 t276.length co44) : Value).ownBlock) (.slice Ao25 t248.length co25) t248) ∧ Aside0 (Kd.R (Kd.int .i64) 3 wc w.heap.size (fun k_ => some k_ ≠ ((.slice Ao25 t248.length co25) : Value).ownBlock ∧ some k_ ≠ ((.slice Ao34 t261.length co34) : Value).ownBlock ∧ some k_ ≠ ((.slice Ao35 t264.length co35) : Value).ownBlock ∧ some k_ ≠ ((.slice Ao43 t273.length co43) : Value).ownBlock ∧ some k_ ≠ ((.slice Ao44 t276.length co44) : Value).ownBlock) (.slice Ao26 t251.length co26) t251) ∧ Aside0 (Kd.R k96 96 wc w.heap.size (fun k_ => some k_ ≠ ((.slice Ao22 t245.length co22) : Value).ownBlock ∧ some k_ ≠ ((.slice Ao38 t270.length co38) : Value).ownBlock) (.slice Ao30 t258.length co30) t297) ∧ Aside0 (Kd.R (Kd.int .i64) 3 wc w.heap.size (fun k_ => some k_ ≠ ((.slice Ao25 t248.length co25) : Value).ownBlock ∧ some k_ ≠ ((.slice Ao26 t251.length co26) : Value).ownBlock ∧ some k_ ≠ ((.slice Ao35 t264.length co35) : Value).ownBlock ∧ some k_ ≠ ((.slice Ao43 t273.length co43) : Value).ownBlock ∧ some k_ ≠ ((.slice Ao44 t276.length co44) : Value).ownBlock) (.slice Ao34 t261.length co34) t298) ∧ Aside0 (Kd.R (Kd.int .i64) 3 wc w.heap.size (fun k_ => some k_ ≠ ((.slice Ao25 t248.length co25) : Value).ownBlock ∧ some k_ ≠ ((.slice Ao26 t251.length co26) : Value).ownBlock ∧ some k_ ≠ ((.slice Ao34 t261.length co34) : Value).ownBlock ∧ some k_ ≠ ((.slice Ao43 t273.length co43) : Value).ownBlock ∧ some k_ ≠ ((.slice Ao44 t276.length co44) : Value).ownBlock) (.slice Ao35 t264.length co35) t299) ∧ Aside0 (Kd.R k96 96 wc w.heap.size (fun k_ => some k_ ≠ ((.slice Ao22 t245.length co22) : Value).ownBlock ∧ some k_ ≠ ((.slice Ao30 t258.length co30) : Value).ownBlock) (.slice Ao38 t270.length co38) t270) ∧ Aside0 (Kd.R (Kd.int .i64) 3 wc w.heap.size (fun k_ => some k_ ≠ ((.slice Ao25 t248.length co25) : Value).ownBlock ∧ some k_ ≠ ((.slice Ao26 t251.length co26) : Value).ownBlock ∧ some k_ ≠ ((.slice Ao34 t261.length co34) : Value).ownBlock ∧ some k_ ≠ ((.slice Ao35 t264.length co35) : Value).ownBlock ∧ some k_ ≠ ((.slice Ao44 t276.length co44) : Value).ownBlock) (.slice Ao43 t273.length co43) t273) ∧ Aside0 (Kd.R (Kd.int .i64) 3 wc w.heap.size (fun k_ => some k_ ≠ ((.slice Ao25 t248.length co25) : Value).ownBlock ∧ some k_ ≠ ((.slice Ao26 t251.length co26) : Value).ownBlock ∧ some k_ ≠ ((.slice Ao34 t261.length co34) : Value).ownBlock ∧ some k_ ≠ ((.slice Ao35 t264.length co35) : Value).ownBlock ∧ some k_ ≠ ((.slice Ao43 t273.length co43) : Value).ownBlock) (.slice Ao44 t276.length co44) t276) ∧ Aside0 (wc.heap[gb232]? = some (.cells #[(.slice A0_0 l0_0.length c0_0), (.slice A0_1 l0_1.length c0_1), (.slice A0_2 l0_2.length c0_2), .int .i64 a0_3, .int .i64 a0_4] 25 (0, 0))) ∧ Aside0 (wc.heap[gb257]? = some (.cells #[(.slice Ao22 t245.length co22), (.slice Ao25 t248.length co25), (.slice Ao26 t251.length co26), .int .i64 t254, .int .i64 t255] 29 (0, 0))) ∧ Aside0 (wc.heap[gb269]? = some (.cells #[(.slice Ao30 t258.length co30), (.slice Ao34 t261.length co34), (.slice Ao35 t264.length co35), .int .i64 t267, .int .i64 t268] 29 (0, 0))) ∧ Aside0 (wc.heap[gb282]? = some (.cells #[(.slice Ao38 t270.length co38), (.slice Ao43 t273.length co43), (.slice Ao44 t276.length co44), .int .i64 t279, .int .i64 t280] 29 (0, 0))) ∧ Aside0 (Below w.heap.size w wc))
         case first =>
          have H := HC76.out
          clear HC76
          by_cases c82 : t296 < 0
          ·
           rw [if_pos c82] at H
           have c82b0 : decide (t296 < 0) = true := decide_eq_true c82
           clear c82
           (first | rw [c82b0] | (simp only [i64_w, i32_w]; rw [c82b0]) | skip)
           have H' := Aside0.mk H
           clear H
           go_wp2
           go_meet
           case rel => exact ⟨_, (true), (by first | rfl | (simp; done) | (simp [*]; done)), H', ⟨by have := HJ4.out; have := HJ13.out; have := HJ62.out; have := HJ66.out; first | omega | exact Nat.le_refl _⟩, ⟨by (with_reducible repeat (first | apply Kd.R_alloc | apply Kd.R_drewN | apply Kd.R_drew)); exact HO_258000.out⟩, ⟨by (with_reducible repeat (first | apply Kd.R_alloc | apply Kd.R_drewN | apply Kd.R_drew)); exact HO_258001.out⟩, ⟨by (with_reducible repeat (first | apply Kd.R_alloc | apply Kd.R_drewN | apply Kd.R_drew)); exact HO_258002.out⟩, ⟨by (with_reducible repeat (first | apply Kd.R_alloc | apply Kd.R_drewN | apply Kd.R_drew)); exact HO_270000.out⟩, ⟨by (with_reducible repeat (first | apply Kd.R_alloc | apply Kd.R_drewN | apply Kd.R_drew)); exact HO_270001.out⟩, ⟨by (with_reducible repeat (first | apply Kd.R_alloc | apply Kd.R_drewN | apply Kd.R_drew)); exact HO_270002.out⟩, ⟨by (with_reducible repeat (first | apply Kd.R_alloc | apply Kd.R_drewN | apply Kd.R_drew)); exact HO_283000.out⟩, ⟨by (with_reducible repeat (first | apply Kd.R_alloc | apply Kd.R_drewN | apply Kd.R_drew)); exact HO_283001.out⟩, ⟨by (with_reducible repeat (first | apply Kd.R_alloc | apply Kd.R_drewN | apply Kd.R_drew)); exact HO_283002.out⟩, ⟨by (with_reducible repeat (first | refine blk_drewN ?_ _ | refine blk_drew ?_ | refine blk_alloc ?_ _)); exact BK232.out⟩, ⟨by (with_reducible repeat (first | refine blk_drewN ?_ _ | refine blk_drew ?_ | refine blk_alloc ?_ _)); exact BK257.out⟩, ⟨by (with_reducible repeat (first | refine blk_drewN ?_ _ | refine blk_drew ?_ | refine blk_alloc ?_ _)); exact BK269.out⟩, ⟨by (with_reducible repeat (first | refine blk_drewN ?_ _ | refine blk_drew ?_ | refine blk_alloc ?_ _)); exact BK282.out⟩, ⟨by repeat (first | (with_reducible first | exact HB.out | apply below_alloc | apply pw_below_drewN | apply below_drew1 | refine below_set ?_ GE232.out | refine below_set ?_ GE257.out | refine below_set ?_ GE269.out | refine below_set ?_ GE282.out) | exact HB.out)⟩⟩
          ·
           rw [if_neg c82] at H
           have c82b0 : decide (t296 < 0) = false := decide_eq_false c82
           clear c82
           (first | rw [c82b0] | (simp only [i64_w, i32_w]; rw [c82b0]) | skip)
           replace H := Option.bind_eq_some_iff.mp H
           obtain ⟨t300, A830, H⟩ := H
           replace H : (if t300 = true then (laws_FnExactSummed.j4 kj66 a1 a2 t256 (t281 != t256) l0_0 l0_1 l0_2 a0_3 a0_4 t245 t248 t251 t254 t255 t270 t273 t276 t279 t280) else (laws_FnExactSummed.j4 kj66 a1 a2 t256 true l0_0 l0_1 l0_2 a0_3 a0_4 t245 t248 t251 t254 t255 t270 t273 t276 t279 t280)) = some r := H
           have A83 := Aside0.mk A830
           clear A830
           by_cases c84 : t300 = true
           ·
            subst c84
            have H1 : (laws_FnExactSummed.j4 kj66 a1 a2 t256 (t281 != t256) l0_0 l0_1 l0_2 a0_3 a0_4 t245 t248 t251 t254 t255 t270 t273 t276 t279 t280) = some r := by rw [if_pos rfl] at H; exact H
            clear H
            have H := H1
            clear H1
            have H' := Aside0.mk H
            clear H
            have hnb85 := NB282_232.out
            have hnc85 := NB232_282.out
            have hnb86 := NB282_257.out
            have hnc86 := NB257_282.out
            have hnb87 := NB282_269.out
            have hnc87 := NB269_282.out
            have hcz88_0 : w81.cell? ⟨gb282, 0, none⟩ = some (.slice Ao38 t270.length co38) := (blk_cell BK282.out 0).trans rfl
            have hcz88_1 : w81.cell? ⟨gb282, 1, none⟩ = some (.slice Ao43 t273.length co43) := (blk_cell BK282.out 1).trans rfl
            have hcz88_2 : w81.cell? ⟨gb282, 2, none⟩ = some (.slice Ao44 t276.length co44) := (blk_cell BK282.out 2).trans rfl
            have hcz88_3 : w81.cell? ⟨gb282, 3, none⟩ = some (.int .i64 t279) := (blk_cell BK282.out 3).trans rfl
            have hcz88_4 : w81.cell? ⟨gb282, 4, none⟩ = some (.int .i64 t280) := (blk_cell BK282.out 4).trans rfl
            have hfz88_0 := blk_frozen BK282.out 0
            have hfz88_1 := blk_frozen BK282.out 1
            have hfz88_2 := blk_frozen BK282.out 2
            have hfz88_3 := blk_frozen BK282.out 3
            have hfz88_4 := blk_frozen BK282.out 4
            have hnb89 := NB257_232.out
            have hnc89 := NB232_257.out
            have hnb90 := NB257_269.out
            have hnc90 := NB269_257.out
            have hcz91_0 : w81.cell? ⟨gb257, 0, none⟩ = some (.slice Ao22 t245.length co22) := (blk_cell BK257.out 0).trans rfl
            have hcz91_1 : w81.cell? ⟨gb257, 1, none⟩ = some (.slice Ao25 t248.length co25) := (blk_cell BK257.out 1).trans rfl
            have hcz91_2 : w81.cell? ⟨gb257, 2, none⟩ = some (.slice Ao26 t251.length co26) := (blk_cell BK257.out 2).trans rfl
            have hcz91_3 : w81.cell? ⟨gb257, 3, none⟩ = some (.int .i64 t254) := (blk_cell BK257.out 3).trans rfl
            have hcz91_4 : w81.cell? ⟨gb257, 4, none⟩ = some (.int .i64 t255) := (blk_cell BK257.out 4).trans rfl
            have hfz91_0 := blk_frozen BK257.out 0
            have hfz91_1 := blk_frozen BK257.out 1
            have hfz91_2 := blk_frozen BK257.out 2
            have hfz91_3 := blk_frozen BK257.out 3
            have hfz91_4 := blk_frozen BK257.out 4
            go_wp2_with (first | (go_at_call 14; (with_reducible refine (laws_eqMemory.calls kj66 _ _ t270 _ _ t273 _ _ t276 t279 t280 _ _ t245 _ _ t248 _ _ t251 t254 t255 true _ ?side1 ?side2 ?side3 ?side4 ?side5 ?side6 ?side7 ?side8 ?side9 ?side10 ?side11 ?side12 A83.out).mono ?_); (case side1 => repeat (first | exact (Kd.R_reads' HO_283000.out).2.2 | (with_reducible refine Kd.C_alloc ?_ _) | (with_reducible refine Kd.C_drewN ?_ _) | (with_reducible refine Kd.C_drew ?_))); (case side2 => exact (Kd.R_reads' HO_283000.out).2.1); (case side3 => repeat (first | exact (Kd.R_reads' HO_283001.out).2.2 | (with_reducible refine Kd.C_alloc ?_ _) | (with_reducible refine Kd.C_drewN ?_ _) | (with_reducible refine Kd.C_drew ?_))); (case side4 => exact (Kd.R_reads' HO_283001.out).2.1); (case side5 => repeat (first | exact (Kd.R_reads' HO_283002.out).2.2 | (with_reducible refine Kd.C_alloc ?_ _) | (with_reducible refine Kd.C_drewN ?_ _) | (with_reducible refine Kd.C_drew ?_))); (case side6 => exact (Kd.R_reads' HO_283002.out).2.1); (case side7 => repeat (first | exact (Kd.R_reads' HO_258000.out).2.2 | (with_reducible refine Kd.C_alloc ?_ _) | (with_reducible refine Kd.C_drewN ?_ _) | (with_reducible refine Kd.C_drew ?_))); (case side8 => exact (Kd.R_reads' HO_258000.out).2.1); (case side9 => repeat (first | exact (Kd.R_reads' HO_258001.out).2.2 | (with_reducible refine Kd.C_alloc ?_ _) | (with_reducible refine Kd.C_drewN ?_ _) | (with_reducible refine Kd.C_drew ?_))); (case side10 => exact (Kd.R_reads' HO_258001.out).2.1); (case side11 => repeat (first | exact (Kd.R_reads' HO_258002.out).2.2 | (with_reducible refine Kd.C_alloc ?_ _) | (with_reducible refine Kd.C_drewN ?_ _) | (with_reducible refine Kd.C_drew ?_))); (case side12 => exact (Kd.R_reads' HO_258002.out).2.1); rintro e w92 ⟨rfl, hb⟩; have n0_ := Aside0.mk (Kd.R_below (by (with_reducible repeat (first | apply Kd.R_alloc | apply Kd.R_drewN | apply Kd.R_drew)); exact HO_258000.out) hb); have n1_ := Aside0.mk (Kd.R_below (by (with_reducible repeat (first | apply Kd.R_alloc | apply Kd.R_drewN | apply Kd.R_drew)); exact HO_258001.out) hb); have n2_ := Aside0.mk (Kd.R_below (by (with_reducible repeat (first | apply Kd.R_alloc | apply Kd.R_drewN | apply Kd.R_drew)); exact HO_258002.out) hb); have n3_ := Aside0.mk (Kd.R_below (by (with_reducible repeat (first | apply Kd.R_alloc | apply Kd.R_drewN | apply Kd.R_drew)); exact HO_270000.out) hb); have n4_ := Aside0.mk (Kd.R_below (by (with_reducible repeat (first | apply Kd.R_alloc | apply Kd.R_drewN | apply Kd.R_drew)); exact HO_270001.out) hb); have n5_ := Aside0.mk (Kd.R_below (by (with_reducible repeat (first | apply Kd.R_alloc | apply Kd.R_drewN | apply Kd.R_drew)); exact HO_270002.out) hb); have n6_ := Aside0.mk (Kd.R_below (by (with_reducible repeat (first | apply Kd.R_alloc | apply Kd.R_drewN | apply Kd.R_drew)); exact HO_283000.out) hb); have n7_ := Aside0.mk (Kd.R_below (by (with_reducible repeat (first | apply Kd.R_alloc | apply Kd.R_drewN | apply Kd.R_drew)); exact HO_283001.out) hb); have n8_ := Aside0.mk (Kd.R_below (by (with_reducible repeat (first | apply Kd.R_alloc | apply Kd.R_drewN | apply Kd.R_drew)); exact HO_283002.out) hb); have n9_ := Aside0.mk (blk_below (g := gb232) (o := .cells #[.slice A0_0 l0_0.length c0_0, .slice A0_1 l0_1.length c0_1, .slice A0_2 l0_2.length c0_2, .int .i64 a0_3, .int .i64 a0_4] 25 (0, 0)) (by (with_reducible repeat (first | refine blk_drewN ?_ _ | refine blk_drew ?_ | refine blk_alloc ?_ _)); exact BK232.out) hb); have n10_ := Aside0.mk (blk_below (g := gb257) (o := .cells #[.slice Ao22 t245.length co22, .slice Ao25 t248.length co25, .slice Ao26 t251.length co26, .int .i64 t254, .int .i64 t255] 29 (0, 0)) (by (with_reducible repeat (first | refine blk_drewN ?_ _ | refine blk_drew ?_ | refine blk_alloc ?_ _)); exact BK257.out) hb); have n11_ := Aside0.mk (blk_below (g := gb269) (o := .cells #[.slice Ao30 t258.length co30, .slice Ao34 t261.length co34, .slice Ao35 t264.length co35, .int .i64 t267, .int .i64 t268] 29 (0, 0)) (by (with_reducible repeat (first | refine blk_drewN ?_ _ | refine blk_drew ?_ | refine blk_alloc ?_ _)); exact BK269.out) hb); have n12_ := Aside0.mk (blk_below (g := gb282) (o := .cells #[.slice Ao38 t270.length co38, .slice Ao43 t273.length co43, .slice Ao44 t276.length co44, .int .i64 t279, .int .i64 t280] 29 (0, 0)) (by (with_reducible repeat (first | refine blk_drewN ?_ _ | refine blk_drew ?_ | refine blk_alloc ?_ _)); exact BK282.out) hb); have n13_ := Aside0.mk (below_step (by repeat (first | (with_reducible first | exact HB.out | apply below_alloc | apply pw_below_drewN | apply below_drew1 | refine below_set ?_ GE232.out | refine below_set ?_ GE257.out | refine below_set ?_ GE269.out | refine below_set ?_ GE282.out) | exact HB.out)) hb); clear HO_258000; clear HO_258001; clear HO_258002; clear HO_270000; clear HO_270001; clear HO_270002; clear HO_283000; clear HO_283001; clear HO_283002; clear BK232; clear BK257; clear BK269; clear BK282; clear HB; have HO_258000 := n0_; have HO_258001 := n1_; have HO_258002 := n2_; have HO_270000 := n3_; have HO_270001 := n4_; have HO_270002 := n5_; have HO_283000 := n6_; have HO_283001 := n7_; have HO_283002 := n8_; have BK232 := n9_; have BK257 := n10_; have BK269 := n11_; have BK282 := n12_; have HB := n13_; clear n0_ n1_ n2_ n3_ n4_ n5_ n6_ n7_ n8_ n9_ n10_ n11_ n12_ n13_; (try clear hb); (try clear hb2); (try clear hk); (try clear hi)))
            go_meet
            case rel => exact ⟨_, ((t281 != t256)), (by first | rfl | (simp; done) | (simp [*]; done)), H', ⟨by have := HJ4.out; have := HJ13.out; have := HJ62.out; have := HJ66.out; first | omega | exact Nat.le_refl _⟩, ⟨by (with_reducible repeat (first | apply Kd.R_alloc | apply Kd.R_drewN | apply Kd.R_drew)); exact HO_258000.out⟩, ⟨by (with_reducible repeat (first | apply Kd.R_alloc | apply Kd.R_drewN | apply Kd.R_drew)); exact HO_258001.out⟩, ⟨by (with_reducible repeat (first | apply Kd.R_alloc | apply Kd.R_drewN | apply Kd.R_drew)); exact HO_258002.out⟩, ⟨by (with_reducible repeat (first | apply Kd.R_alloc | apply Kd.R_drewN | apply Kd.R_drew)); exact HO_270000.out⟩, ⟨by (with_reducible repeat (first | apply Kd.R_alloc | apply Kd.R_drewN | apply Kd.R_drew)); exact HO_270001.out⟩, ⟨by (with_reducible repeat (first | apply Kd.R_alloc | apply Kd.R_drewN | apply Kd.R_drew)); exact HO_270002.out⟩, ⟨by (with_reducible repeat (first | apply Kd.R_alloc | apply Kd.R_drewN | apply Kd.R_drew)); exact HO_283000.out⟩, ⟨by (with_reducible repeat (first | apply Kd.R_alloc | apply Kd.R_drewN | apply Kd.R_drew)); exact HO_283001.out⟩, ⟨by (with_reducible repeat (first | apply Kd.R_alloc | apply Kd.R_drewN | apply Kd.R_drew)); exact HO_283002.out⟩, ⟨by (with_reducible repeat (first | refine blk_drewN ?_ _ | refine blk_drew ?_ | refine blk_alloc ?_ _)); exact BK232.out⟩, ⟨by (with_reducible repeat (first | refine blk_drewN ?_ _ | refine blk_drew ?_ | refine blk_alloc ?_ _)); exact BK257.out⟩, ⟨by (with_reducible repeat (first | refine blk_drewN ?_ _ | refine blk_drew ?_ | refine blk_alloc ?_ _)); exact BK269.out⟩, ⟨by (with_reducible repeat (first | refine blk_drewN ?_ _ | refine blk_drew ?_ | refine blk_alloc ?_ _)); exact BK282.out⟩, ⟨by repeat (first | (with_reducible first | exact HB.out | apply below_alloc | apply pw_below_drewN | apply below_drew1 | refine below_set ?_ GE232.out | refine below_set ?_ GE257.out | refine below_set ?_ GE269.out | refine below_set ?_ GE282.out) | exact HB.out)⟩⟩
           ·
            replace c84 := Bool.eq_false_iff.mpr c84
            subst c84
            have H1 : (laws_FnExactSummed.j4 kj66 a1 a2 t256 true l0_0 l0_1 l0_2 a0_3 a0_4 t245 t248 t251 t254 t255 t270 t273 t276 t279 t280) = some r := by rw [if_neg (show ¬ (false = true) by decide)] at H; exact H
            clear H
            have H := H1
            clear H1
            have H' := Aside0.mk H
            clear H
            have hnb93 := NB282_232.out
            have hnc93 := NB232_282.out
            have hnb94 := NB282_257.out
            have hnc94 := NB257_282.out
            have hnb95 := NB282_269.out
            have hnc95 := NB269_282.out
            have hcz96_0 : w81.cell? ⟨gb282, 0, none⟩ = some (.slice Ao38 t270.length co38) := (blk_cell BK282.out 0).trans rfl
            have hcz96_1 : w81.cell? ⟨gb282, 1, none⟩ = some (.slice Ao43 t273.length co43) := (blk_cell BK282.out 1).trans rfl
            have hcz96_2 : w81.cell? ⟨gb282, 2, none⟩ = some (.slice Ao44 t276.length co44) := (blk_cell BK282.out 2).trans rfl
            have hcz96_3 : w81.cell? ⟨gb282, 3, none⟩ = some (.int .i64 t279) := (blk_cell BK282.out 3).trans rfl
            have hcz96_4 : w81.cell? ⟨gb282, 4, none⟩ = some (.int .i64 t280) := (blk_cell BK282.out 4).trans rfl
            have hfz96_0 := blk_frozen BK282.out 0
            have hfz96_1 := blk_frozen BK282.out 1
            have hfz96_2 := blk_frozen BK282.out 2
            have hfz96_3 := blk_frozen BK282.out 3
            have hfz96_4 := blk_frozen BK282.out 4
            have hnb97 := NB257_232.out
            have hnc97 := NB232_257.out
            have hnb98 := NB257_269.out
            have hnc98 := NB269_257.out
            have hcz99_0 : w81.cell? ⟨gb257, 0, none⟩ = some (.slice Ao22 t245.length co22) := (blk_cell BK257.out 0).trans rfl
            have hcz99_1 : w81.cell? ⟨gb257, 1, none⟩ = some (.slice Ao25 t248.length co25) := (blk_cell BK257.out 1).trans rfl
            have hcz99_2 : w81.cell? ⟨gb257, 2, none⟩ = some (.slice Ao26 t251.length co26) := (blk_cell BK257.out 2).trans rfl
            have hcz99_3 : w81.cell? ⟨gb257, 3, none⟩ = some (.int .i64 t254) := (blk_cell BK257.out 3).trans rfl
            have hcz99_4 : w81.cell? ⟨gb257, 4, none⟩ = some (.int .i64 t255) := (blk_cell BK257.out 4).trans rfl
            have hfz99_0 := blk_frozen BK257.out 0
            have hfz99_1 := blk_frozen BK257.out 1
            have hfz99_2 := blk_frozen BK257.out 2
            have hfz99_3 := blk_frozen BK257.out 3
            have hfz99_4 := blk_frozen BK257.out 4
            go_wp2_with (first | (go_at_call 14; (with_reducible refine (laws_eqMemory.calls kj66 _ _ t270 _ _ t273 _ _ t276 t279 t280 _ _ t245 _ _ t248 _ _ t251 t254 t255 false _ ?side1 ?side2 ?side3 ?side4 ?side5 ?side6 ?side7 ?side8 ?side9 ?side10 ?side11 ?side12 A83.out).mono ?_); (case side1 => repeat (first | exact (Kd.R_reads' HO_283000.out).2.2 | (with_reducible refine Kd.C_alloc ?_ _) | (with_reducible refine Kd.C_drewN ?_ _) | (with_reducible refine Kd.C_drew ?_))); (case side2 => exact (Kd.R_reads' HO_283000.out).2.1); (case side3 => repeat (first | exact (Kd.R_reads' HO_283001.out).2.2 | (with_reducible refine Kd.C_alloc ?_ _) | (with_reducible refine Kd.C_drewN ?_ _) | (with_reducible refine Kd.C_drew ?_))); (case side4 => exact (Kd.R_reads' HO_283001.out).2.1); (case side5 => repeat (first | exact (Kd.R_reads' HO_283002.out).2.2 | (with_reducible refine Kd.C_alloc ?_ _) | (with_reducible refine Kd.C_drewN ?_ _) | (with_reducible refine Kd.C_drew ?_))); (case side6 => exact (Kd.R_reads' HO_283002.out).2.1); (case side7 => repeat (first | exact (Kd.R_reads' HO_258000.out).2.2 | (with_reducible refine Kd.C_alloc ?_ _) | (with_reducible refine Kd.C_drewN ?_ _) | (with_reducible refine Kd.C_drew ?_))); (case side8 => exact (Kd.R_reads' HO_258000.out).2.1); (case side9 => repeat (first | exact (Kd.R_reads' HO_258001.out).2.2 | (with_reducible refine Kd.C_alloc ?_ _) | (with_reducible refine Kd.C_drewN ?_ _) | (with_reducible refine Kd.C_drew ?_))); (case side10 => exact (Kd.R_reads' HO_258001.out).2.1); (case side11 => repeat (first | exact (Kd.R_reads' HO_258002.out).2.2 | (with_reducible refine Kd.C_alloc ?_ _) | (with_reducible refine Kd.C_drewN ?_ _) | (with_reducible refine Kd.C_drew ?_))); (case side12 => exact (Kd.R_reads' HO_258002.out).2.1); rintro e w100 ⟨rfl, hb⟩; have n0_ := Aside0.mk (Kd.R_below (by (with_reducible repeat (first | apply Kd.R_alloc | apply Kd.R_drewN | apply Kd.R_drew)); exact HO_258000.out) hb); have n1_ := Aside0.mk (Kd.R_below (by (with_reducible repeat (first | apply Kd.R_alloc | apply Kd.R_drewN | apply Kd.R_drew)); exact HO_258001.out) hb); have n2_ := Aside0.mk (Kd.R_below (by (with_reducible repeat (first | apply Kd.R_alloc | apply Kd.R_drewN | apply Kd.R_drew)); exact HO_258002.out) hb); have n3_ := Aside0.mk (Kd.R_below (by (with_reducible repeat (first | apply Kd.R_alloc | apply Kd.R_drewN | apply Kd.R_drew)); exact HO_270000.out) hb); have n4_ := Aside0.mk (Kd.R_below (by (with_reducible repeat (first | apply Kd.R_alloc | apply Kd.R_drewN | apply Kd.R_drew)); exact HO_270001.out) hb); have n5_ := Aside0.mk (Kd.R_below (by (with_reducible repeat (first | apply Kd.R_alloc | apply Kd.R_drewN | apply Kd.R_drew)); exact HO_270002.out) hb); have n6_ := Aside0.mk (Kd.R_below (by (with_reducible repeat (first | apply Kd.R_alloc | apply Kd.R_drewN | apply Kd.R_drew)); exact HO_283000.out) hb); have n7_ := Aside0.mk (Kd.R_below (by (with_reducible repeat (first | apply Kd.R_alloc | apply Kd.R_drewN | apply Kd.R_drew)); exact HO_283001.out) hb); have n8_ := Aside0.mk (Kd.R_below (by (with_reducible repeat (first | apply Kd.R_alloc | apply Kd.R_drewN | apply Kd.R_drew)); exact HO_283002.out) hb); have n9_ := Aside0.mk (blk_below (g := gb232) (o := .cells #[.slice A0_0 l0_0.length c0_0, .slice A0_1 l0_1.length c0_1, .slice A0_2 l0_2.length c0_2, .int .i64 a0_3, .int .i64 a0_4] 25 (0, 0)) (by (with_reducible repeat (first | refine blk_drewN ?_ _ | refine blk_drew ?_ | refine blk_alloc ?_ _)); exact BK232.out) hb); have n10_ := Aside0.mk (blk_below (g := gb257) (o := .cells #[.slice Ao22 t245.length co22, .slice Ao25 t248.length co25, .slice Ao26 t251.length co26, .int .i64 t254, .int .i64 t255] 29 (0, 0)) (by (with_reducible repeat (first | refine blk_drewN ?_ _ | refine blk_drew ?_ | refine blk_alloc ?_ _)); exact BK257.out) hb); have n11_ := Aside0.mk (blk_below (g := gb269) (o := .cells #[.slice Ao30 t258.length co30, .slice Ao34 t261.length co34, .slice Ao35 t264.length co35, .int .i64 t267, .int .i64 t268] 29 (0, 0)) (by (with_reducible repeat (first | refine blk_drewN ?_ _ | refine blk_drew ?_ | refine blk_alloc ?_ _)); exact BK269.out) hb); have n12_ := Aside0.mk (blk_below (g := gb282) (o := .cells #[.slice Ao38 t270.length co38, .slice Ao43 t273.length co43, .slice Ao44 t276.length co44, .int .i64 t279, .int .i64 t280] 29 (0, 0)) (by (with_reducible repeat (first | refine blk_drewN ?_ _ | refine blk_drew ?_ | refine blk_alloc ?_ _)); exact BK282.out) hb); have n13_ := Aside0.mk (below_step (by repeat (first | (with_reducible first | exact HB.out | apply below_alloc | apply pw_below_drewN | apply below_drew1 | refine below_set ?_ GE232.out | refine below_set ?_ GE257.out | refine below_set ?_ GE269.out | refine below_set ?_ GE282.out) | exact HB.out)) hb); clear HO_258000; clear HO_258001; clear HO_258002; clear HO_270000; clear HO_270001; clear HO_270002; clear HO_283000; clear HO_283001; clear HO_283002; clear BK232; clear BK257; clear BK269; clear BK282; clear HB; have HO_258000 := n0_; have HO_258001 := n1_; have HO_258002 := n2_; have HO_270000 := n3_; have HO_270001 := n4_; have HO_270002 := n5_; have HO_283000 := n6_; have HO_283001 := n7_; have HO_283002 := n8_; have BK232 := n9_; have BK257 := n10_; have BK269 := n11_; have BK282 := n12_; have HB := n13_; clear n0_ n1_ n2_ n3_ n4_ n5_ n6_ n7_ n8_ n9_ n10_ n11_ n12_ n13_; (try clear hb); (try clear hb2); (try clear hk); (try clear hi)))
            go_meet
            case rel => exact ⟨_, (true), (by first | rfl | (simp; done) | (simp [*]; done)), H', ⟨by have := HJ4.out; have := HJ13.out; have := HJ62.out; have := HJ66.out; first | omega | exact Nat.le_refl _⟩, ⟨by (with_reducible repeat (first | apply Kd.R_alloc | apply Kd.R_drewN | apply Kd.R_drew)); exact HO_258000.out⟩, ⟨by (with_reducible repeat (first | apply Kd.R_alloc | apply Kd.R_drewN | apply Kd.R_drew)); exact HO_258001.out⟩, ⟨by (with_reducible repeat (first | apply Kd.R_alloc | apply Kd.R_drewN | apply Kd.R_drew)); exact HO_258002.out⟩, ⟨by (with_reducible repeat (first | apply Kd.R_alloc | apply Kd.R_drewN | apply Kd.R_drew)); exact HO_270000.out⟩, ⟨by (with_reducible repeat (first | apply Kd.R_alloc | apply Kd.R_drewN | apply Kd.R_drew)); exact HO_270001.out⟩, ⟨by (with_reducible repeat (first | apply Kd.R_alloc | apply Kd.R_drewN | apply Kd.R_drew)); exact HO_270002.out⟩, ⟨by (with_reducible repeat (first | apply Kd.R_alloc | apply Kd.R_drewN | apply Kd.R_drew)); exact HO_283000.out⟩, ⟨by (with_reducible repeat (first | apply Kd.R_alloc | apply Kd.R_drewN | apply Kd.R_drew)); exact HO_283001.out⟩, ⟨by (with_reducible repeat (first | apply Kd.R_alloc | apply Kd.R_drewN | apply Kd.R_drew)); exact HO_283002.out⟩, ⟨by (with_reducible repeat (first | refine blk_drewN ?_ _ | refine blk_drew ?_ | refine blk_alloc ?_ _)); exact BK232.out⟩, ⟨by (with_reducible repeat (first | refine blk_drewN ?_ _ | refine blk_drew ?_ | refine blk_alloc ?_ _)); exact BK257.out⟩, ⟨by (with_reducible repeat (first | refine blk_drewN ?_ _ | refine blk_drew ?_ | refine blk_alloc ?_ _)); exact BK269.out⟩, ⟨by (with_reducible repeat (first | refine blk_drewN ?_ _ | refine blk_drew ?_ | refine blk_alloc ?_ _)); exact BK282.out⟩, ⟨by repeat (first | (with_reducible first | exact HB.out | apply below_alloc | apply pw_below_drewN | apply below_drew1 | refine below_set ?_ GE232.out | refine below_set ?_ GE257.out | refine below_set ?_ GE269.out | refine below_set ?_ GE282.out) | exact HB.out)⟩⟩
         case rest =>
          clear HC76
          try clear c1
          try clear c2
          try clear p2
          try clear c3
          try clear c4
          try clear c5
          try clear c6
          try clear c7
          try clear c8
          try clear c9
          try clear c9b0
          try clear c10
          try clear c11
          try clear c12
          try clear c13
          try clear c14
          try clear c15
          try clear c23
          try clear c31
          try clear c32
          try clear c39
          try clear c40
          try clear c41
          try clear c46
          try clear c47
          try clear c48
          try clear c49
          try clear c51
          try clear c52
          try clear c55
          try clear c56
          try clear c57
          try clear c59
          try clear c60
          try clear c64
          try clear c74
          try clear c77
          try clear c78
          try clear c79
          try clear c82
          try clear c82b0
          try clear c84
          try clear c85
          try clear c86
          try clear c87
          try clear c89
          try clear c90
          try clear c93
          try clear c94
          try clear c95
          try clear c97
          try clear c98
          try clear hcz15_0
          try clear hcz15_1
          try clear hcz15_2
          try clear hcz15_3
          try clear hcz15_4
          try clear hcz24_0
          try clear hcz24_1
          try clear hcz24_2
          try clear hcz24_3
          try clear hcz24_4
          try clear hcz27_0
          try clear hcz27_1
          try clear hcz27_2
          try clear hcz27_3
          try clear hcz27_4
          try clear hcz33_0
          try clear hcz33_1
          try clear hcz33_2
          try clear hcz33_3
          try clear hcz33_4
          try clear hcz42_0
          try clear hcz42_1
          try clear hcz42_2
          try clear hcz42_3
          try clear hcz42_4
          try clear hcz50_0
          try clear hcz50_1
          try clear hcz50_2
          try clear hcz50_3
          try clear hcz50_4
          try clear hcz53_0
          try clear hcz53_1
          try clear hcz53_2
          try clear hcz53_3
          try clear hcz53_4
          try clear hcz58_0
          try clear hcz58_1
          try clear hcz58_2
          try clear hcz58_3
          try clear hcz58_4
          try clear hcz61_0
          try clear hcz61_1
          try clear hcz61_2
          try clear hcz61_3
          try clear hcz61_4
          try clear hcz7_0
          try clear hcz7_1
          try clear hcz7_2
          try clear hcz7_3
          try clear hcz7_4
          try clear hcz80_0
          try clear hcz80_1
          try clear hcz80_2
          try clear hcz80_3
          try clear hcz80_4
          try clear hcz88_0
          try clear hcz88_1
          try clear hcz88_2
          try clear hcz88_3
          try clear hcz88_4
          try clear hcz91_0
          try clear hcz91_1
          try clear hcz91_2
          try clear hcz91_3
          try clear hcz91_4
          try clear hcz96_0
          try clear hcz96_1
          try clear hcz96_2
          try clear hcz96_3
          try clear hcz96_4
          try clear hcz99_0
          try clear hcz99_1
          try clear hcz99_2
          try clear hcz99_3
          try clear hcz99_4
          try clear hfz15_0
          try clear hfz15_1
          try clear hfz15_2
          try clear hfz15_3
          try clear hfz15_4
          try clear hfz24_0
          try clear hfz24_1
          try clear hfz24_2
          try clear hfz24_3
          try clear hfz24_4
          try clear hfz27_0
          try clear hfz27_1
          try clear hfz27_2
          try clear hfz27_3
          try clear hfz27_4
          try clear hfz33_0
          try clear hfz33_1
          try clear hfz33_2
          try clear hfz33_3
          try clear hfz33_4
          try clear hfz42_0
          try clear hfz42_1
          try clear hfz42_2
          try clear hfz42_3
          try clear hfz42_4
          try clear hfz50_0
          try clear hfz50_1
          try clear hfz50_2
          try clear hfz50_3
          try clear hfz50_4
          try clear hfz53_0
          try clear hfz53_1
          try clear hfz53_2
          try clear hfz53_3
          try clear hfz53_4
          try clear hfz58_0
          try clear hfz58_1
          try clear hfz58_2
          try clear hfz58_3
          try clear hfz58_4
          try clear hfz61_0
          try clear hfz61_1
          try clear hfz61_2
          try clear hfz61_3
          try clear hfz61_4
          try clear hfz7_0
          try clear hfz7_1
          try clear hfz7_2
          try clear hfz7_3
          try clear hfz7_4
          try clear hfz80_0
          try clear hfz80_1
          try clear hfz80_2
          try clear hfz80_3
          try clear hfz80_4
          try clear hfz88_0
          try clear hfz88_1
          try clear hfz88_2
          try clear hfz88_3
          try clear hfz88_4
          try clear hfz91_0
          try clear hfz91_1
          try clear hfz91_2
          try clear hfz91_3
          try clear hfz91_4
          try clear hfz96_0
          try clear hfz96_1
          try clear hfz96_2
          try clear hfz96_3
          try clear hfz96_4
          try clear hfz99_0
          try clear hfz99_1
          try clear hfz99_2
          try clear hfz99_3
          try clear hfz99_4
          try clear p2
          obtain ⟨kq, x69_75, rfl, HA, HJ75, HO_258000, HO_258001, HO_258002, HO_270000, HO_270001, HO_270002, HO_283000, HO_283001, HO_283002, BK232, BK257, BK269, BK282, HB⟩ := hcut
          have hl270000_75 := (Kd.R_reads' HO_270000.out).1
          rw [hl270000_75] at HO_270000
          (try simp only [hl270000_75])
          (try simp only [hl270000_75] at BK232)
          (try simp only [hl270000_75] at BK257)
          (try simp only [hl270000_75] at BK269)
          (try simp only [hl270000_75] at BK282)
          (try simp only [hl270000_75] at HO_258000)
          (try simp only [hl270000_75] at HO_258001)
          (try simp only [hl270000_75] at HO_258002)
          (try simp only [hl270000_75] at HO_270001)
          (try simp only [hl270000_75] at HO_270002)
          (try simp only [hl270000_75] at HO_283000)
          (try simp only [hl270000_75] at HO_283001)
          (try simp only [hl270000_75] at HO_283002)
          have hl270001_75 := (Kd.R_reads' HO_270001.out).1
          rw [hl270001_75] at HO_270001
          (try simp only [hl270001_75])
          (try simp only [hl270001_75] at BK232)
          (try simp only [hl270001_75] at BK257)
          (try simp only [hl270001_75] at BK269)
          (try simp only [hl270001_75] at BK282)
          (try simp only [hl270001_75] at HO_258000)
          (try simp only [hl270001_75] at HO_258001)
          (try simp only [hl270001_75] at HO_258002)
          (try simp only [hl270001_75] at HO_270000)
          (try simp only [hl270001_75] at HO_270002)
          (try simp only [hl270001_75] at HO_283000)
          (try simp only [hl270001_75] at HO_283001)
          (try simp only [hl270001_75] at HO_283002)
          have hl270002_75 := (Kd.R_reads' HO_270002.out).1
          rw [hl270002_75] at HO_270002
          (try simp only [hl270002_75])
          (try simp only [hl270002_75] at BK232)
          (try simp only [hl270002_75] at BK257)
          (try simp only [hl270002_75] at BK269)
          (try simp only [hl270002_75] at BK282)
          (try simp only [hl270002_75] at HO_258000)
          (try simp only [hl270002_75] at HO_258001)
          (try simp only [hl270002_75] at HO_258002)
          (try simp only [hl270002_75] at HO_270000)
          (try simp only [hl270002_75] at HO_270001)
          (try simp only [hl270002_75] at HO_283000)
          (try simp only [hl270002_75] at HO_283001)
          (try simp only [hl270002_75] at HO_283002)
          cases kq with
          | zero => exact absurd HA.out (by simp [laws_FnExactSummed.j4])
          | succ kj75 =>
           have H := HA.out
           clear HA
           simp only [laws_FnExactSummed.j4] at H
           have HC101 := Aside0.mk H
           clear H
           go_upto_if 69 with (fail)
           go_cut [] (fun wc => ∃ (kq : Nat), Aside0 (laws_FnExactSummed.j5 kq a1 a2 t256 l0_0 l0_1 l0_2 a0_3 a0_4 t245 t248 t251 t254 t255 t270 t273 t276 t279 t280 = some r) ∧ Aside0 (kq ≤ kj75) ∧ Aside0 (Kd.R k96 96 wc w.heap.size (fun k_ => some k_ ≠ ((.slice Ao30 t297.length co30) : Value).ownBlock ∧ some k_ ≠ ((.slice Ao38 t270.length co38) : Value).ownBlock) (.slice Ao22 t245.length co22) t245) ∧ Aside0 (Kd.R (Kd.int .i64) 3 wc w.heap.size (fun k_ => some k_ ≠ ((.slice Ao26 t251.length co26) : Value).ownBlock ∧ some k_ ≠ ((.slice Ao34 t298.length co34) : Value).ownBlock ∧ some k_ ≠ ((.slice Ao35 t299.length co35) : Value).ownBlock ∧ some k_ ≠ ((.slice Ao43 t273.length co43) : Value).ownBlock ∧ some k_ ≠ ((.slice Ao44 t276.length co44) : Value).ownBlock) (.slice Ao25 t248.length co25) t248) ∧ Aside0 (Kd.R (Kd.int .i64) 3 wc w.heap.size (fun k_ => some k_ ≠ ((.slice Ao25 t248.length co25) : Value).ownBlock ∧ some k_ ≠ ((.slice Ao34 t298.length co34) : Value).ownBlock ∧ some k_ ≠ ((.slice Ao35 t299.length co35) : Value).ownBlock ∧ some k_ ≠ ((.slice Ao43 t273.length co43) : Value).ownBlock ∧ some k_ ≠ ((.slice Ao44 t276.length co44) : Value).ownBlock) (.slice Ao26 t251.length co26) t251) ∧ Aside0 (Kd.R k96 96 wc w.heap.size (fun k_ => some k_ ≠ ((.slice Ao22 t245.length co22) : Value).ownBlock ∧ some k_ ≠ ((.slice Ao38 t270.length co38) : Value).ownBlock) (.slice Ao30 t297.length co30) t297) ∧ Aside0 (Kd.R (Kd.int .i64) 3 wc w.heap.size (fun k_ => some k_ ≠ ((.slice Ao25 t248.length co25) : Value).ownBlock ∧ some k_ ≠ ((.slice Ao26 t251.length co26) : Value).ownBlock ∧ some k_ ≠ ((.slice Ao35 t299.length co35) : Value).ownBlock ∧ some k_ ≠ ((.slice Ao43 t273.length co43) : Value).ownBlock ∧ some k_ ≠ ((.slice Ao44 t276.length co44) : Value).ownBlock) (.slice Ao34 t298.length co34) t298) ∧ Aside0 (Kd.R (Kd.int .i64) 3 wc w.heap.size (fun k_ => some k_ ≠ ((.slice Ao25 t248.length co25) : Value).ownBlock ∧ some k_ ≠ ((.slice Ao26 t251.length co26) : Value).ownBlock ∧ some k_ ≠ ((.slice Ao34 t298.length co34) : Value).ownBlock ∧ some k_ ≠ ((.slice Ao43 t273.length co43) : Value).ownBlock ∧ some k_ ≠ ((.slice Ao44 t276.length co44) : Value).ownBlock) (.slice Ao35 t299.length co35) t299) ∧ Aside0 (Kd.R k96 96 wc w.heap.size (fun k_ => some k_ ≠ ((.slice Ao22 t245.length co22) : Value).ownBlock ∧ some k_ ≠ ((.slice Ao30 t297.length co30) : Value).ownBlock) (.slice Ao38 t270.length co38) t270) ∧ Aside0 (Kd.R (Kd.int .i64) 3 wc w.heap.size (fun k_ => some k_ ≠ ((.slice Ao25 t248.length co25) : Value).ownBlock ∧ some k_ ≠ ((.slice Ao26 t251.length co26) : Value).ownBlock ∧ some k_ ≠ ((.slice Ao34 t298.length co34) : Value).ownBlock ∧ some k_ ≠ ((.slice Ao35 t299.length co35) : Value).ownBlock ∧ some k_ ≠ ((.slice Ao44 t276.length co44) : Value).ownBlock) (.slice Ao43 t273.length co43) t273) ∧ Aside0 (Kd.R (Kd.int .i64) 3 wc w.heap.size (fun k_ => some k_ ≠ ((.slice Ao25 t248.length co25) : Value).ownBlock ∧ some k_ ≠ ((.slice Ao26 t251.length co26) : Value).ownBlock ∧ some k_ ≠ ((.slice Ao34 t298.length co34) : Value).ownBlock ∧ some k_ ≠ ((.slice Ao35 t299.length co35) : Value).ownBlock ∧ some k_ ≠ ((.slice Ao43 t273.length co43) : Value).ownBlock) (.slice Ao44 t276.length co44) t276) ∧ Aside0 (wc.heap[gb232]? = some (.cells #[(.slice A0_0 l0_0.length c0_0), (.slice A0_1 l0_1.length c0_1), (.slice A0_2 l0_2.length c0_2), .int .i64 a0_3, .int .i64 a0_4] 25 (0, 0))) ∧ Aside0 (wc.heap[gb257]? = some (.cells #[(.slice Ao22 t245.length co22), (.slice Ao25 t248.length co25), (.slice Ao26 t251.length co26), .int .i64 t254, .int .i64 t255] 29 (0, 0))) ∧ Aside0 (wc.heap[gb269]? = some (.cells #[(.slice Ao30 t297.length co30), (.slice Ao34 t298.length co34), (.slice Ao35 t299.length co35), .int .i64 t267, .int .i64 t268] 29 (0, 0))) ∧ Aside0 (wc.heap[gb282]? = some (.cells #[(.slice Ao38 t270.length co38), (.slice Ao43 t273.length co43), (.slice Ao44 t276.length co44), .int .i64 t279, .int .i64 t280] 29 (0, 0))) ∧ Aside0 (Below w.heap.size w wc))
           case first =>
            have H := HC101.out
            clear HC101
            by_cases c102 : x69_75 = true
            ·
             subst c102
             have H1 : (some false) = some r := by rw [if_pos rfl] at H; exact H
             clear H
             have H := H1
             clear H1
             obtain rfl := Option.some.inj H
             go_wp2
             go_ret
             exact ⟨by first | rfl | (simp [errW_none, errW_some] <;> rfl) | (simp [*, errW_none, errW_some] <;> rfl), by repeat (first | (with_reducible first | exact HB.out | apply below_alloc | apply pw_below_drewN | apply below_drew1 | refine below_set ?_ GE232.out | refine below_set ?_ GE257.out | refine below_set ?_ GE269.out | refine below_set ?_ GE282.out) | exact HB.out)⟩
            ·
             replace c102 := Bool.eq_false_iff.mpr c102
             subst c102
             have H1 : (laws_FnExactSummed.j5 kj75 a1 a2 t256 l0_0 l0_1 l0_2 a0_3 a0_4 t245 t248 t251 t254 t255 t270 t273 t276 t279 t280) = some r := by rw [if_neg (show ¬ (false = true) by decide)] at H; exact H
             clear H
             have H := H1
             clear H1
             have H' := Aside0.mk H
             clear H
             go_wp2
             go_meet
             case rel => exact ⟨_, H', ⟨by have := HJ4.out; have := HJ13.out; have := HJ62.out; have := HJ66.out; have := HJ75.out; first | omega | exact Nat.le_refl _⟩, ⟨by (try simp only [hl270000_75]); (try simp only [hl270001_75]); (try simp only [hl270002_75]); (with_reducible repeat (first | apply Kd.R_alloc | apply Kd.R_drewN | apply Kd.R_drew)); exact HO_258000.out⟩, ⟨by (try simp only [hl270000_75]); (try simp only [hl270001_75]); (try simp only [hl270002_75]); (with_reducible repeat (first | apply Kd.R_alloc | apply Kd.R_drewN | apply Kd.R_drew)); exact HO_258001.out⟩, ⟨by (try simp only [hl270000_75]); (try simp only [hl270001_75]); (try simp only [hl270002_75]); (with_reducible repeat (first | apply Kd.R_alloc | apply Kd.R_drewN | apply Kd.R_drew)); exact HO_258002.out⟩, ⟨by (try simp only [hl270000_75]); (try simp only [hl270001_75]); (try simp only [hl270002_75]); (with_reducible repeat (first | apply Kd.R_alloc | apply Kd.R_drewN | apply Kd.R_drew)); exact HO_270000.out⟩, ⟨by (try simp only [hl270000_75]); (try simp only [hl270001_75]); (try simp only [hl270002_75]); (with_reducible repeat (first | apply Kd.R_alloc | apply Kd.R_drewN | apply Kd.R_drew)); exact HO_270001.out⟩, ⟨by (try simp only [hl270000_75]); (try simp only [hl270001_75]); (try simp only [hl270002_75]); (with_reducible repeat (first | apply Kd.R_alloc | apply Kd.R_drewN | apply Kd.R_drew)); exact HO_270002.out⟩, ⟨by (try simp only [hl270000_75]); (try simp only [hl270001_75]); (try simp only [hl270002_75]); (with_reducible repeat (first | apply Kd.R_alloc | apply Kd.R_drewN | apply Kd.R_drew)); exact HO_283000.out⟩, ⟨by (try simp only [hl270000_75]); (try simp only [hl270001_75]); (try simp only [hl270002_75]); (with_reducible repeat (first | apply Kd.R_alloc | apply Kd.R_drewN | apply Kd.R_drew)); exact HO_283001.out⟩, ⟨by (try simp only [hl270000_75]); (try simp only [hl270001_75]); (try simp only [hl270002_75]); (with_reducible repeat (first | apply Kd.R_alloc | apply Kd.R_drewN | apply Kd.R_drew)); exact HO_283002.out⟩, ⟨by (try simp only [hl270000_75]); (try simp only [hl270001_75]); (try simp only [hl270002_75]); (with_reducible repeat (first | refine blk_drewN ?_ _ | refine blk_drew ?_ | refine blk_alloc ?_ _)); exact BK232.out⟩, ⟨by (try simp only [hl270000_75]); (try simp only [hl270001_75]); (try simp only [hl270002_75]); (with_reducible repeat (first | refine blk_drewN ?_ _ | refine blk_drew ?_ | refine blk_alloc ?_ _)); exact BK257.out⟩, ⟨by (try simp only [hl270000_75]); (try simp only [hl270001_75]); (try simp only [hl270002_75]); (with_reducible repeat (first | refine blk_drewN ?_ _ | refine blk_drew ?_ | refine blk_alloc ?_ _)); exact BK269.out⟩, ⟨by (try simp only [hl270000_75]); (try simp only [hl270001_75]); (try simp only [hl270002_75]); (with_reducible repeat (first | refine blk_drewN ?_ _ | refine blk_drew ?_ | refine blk_alloc ?_ _)); exact BK282.out⟩, ⟨by repeat (first | (with_reducible first | exact HB.out | apply below_alloc | apply pw_below_drewN | apply below_drew1 | refine below_set ?_ GE232.out | refine below_set ?_ GE257.out | refine below_set ?_ GE269.out | refine below_set ?_ GE282.out) | exact HB.out)⟩⟩
           case rest =>
            clear HC101
            try clear c1
            try clear c2
            try clear p2
            try clear c3
            try clear c4
            try clear c5
            try clear c6
            try clear c7
            try clear c8
            try clear c9
            try clear c9b0
            try clear c10
            try clear c11
            try clear c12
            try clear c13
            try clear c14
            try clear c15
            try clear c23
            try clear c31
            try clear c32
            try clear c39
            try clear c40
            try clear c41
            try clear c46
            try clear c47
            try clear c48
            try clear c49
            try clear c51
            try clear c52
            try clear c55
            try clear c56
            try clear c57
            try clear c59
            try clear c60
            try clear c64
            try clear c74
            try clear c77
            try clear c78
            try clear c79
            try clear c82
            try clear c82b0
            try clear c84
            try clear c85
            try clear c86
            try clear c87
            try clear c89
            try clear c90
            try clear c93
            try clear c94
            try clear c95
            try clear c97
            try clear c98
            try clear c102
            try clear hcz15_0
            try clear hcz15_1
            try clear hcz15_2
            try clear hcz15_3
            try clear hcz15_4
            try clear hcz24_0
            try clear hcz24_1
            try clear hcz24_2
            try clear hcz24_3
            try clear hcz24_4
            try clear hcz27_0
            try clear hcz27_1
            try clear hcz27_2
            try clear hcz27_3
            try clear hcz27_4
            try clear hcz33_0
            try clear hcz33_1
            try clear hcz33_2
            try clear hcz33_3
            try clear hcz33_4
            try clear hcz42_0
            try clear hcz42_1
            try clear hcz42_2
            try clear hcz42_3
            try clear hcz42_4
            try clear hcz50_0
            try clear hcz50_1
            try clear hcz50_2
            try clear hcz50_3
            try clear hcz50_4
            try clear hcz53_0
            try clear hcz53_1
            try clear hcz53_2
            try clear hcz53_3
            try clear hcz53_4
            try clear hcz58_0
            try clear hcz58_1
            try clear hcz58_2
            try clear hcz58_3
            try clear hcz58_4
            try clear hcz61_0
            try clear hcz61_1
            try clear hcz61_2
            try clear hcz61_3
            try clear hcz61_4
            try clear hcz7_0
            try clear hcz7_1
            try clear hcz7_2
            try clear hcz7_3
            try clear hcz7_4
            try clear hcz80_0
            try clear hcz80_1
            try clear hcz80_2
            try clear hcz80_3
            try clear hcz80_4
            try clear hcz88_0
            try clear hcz88_1
            try clear hcz88_2
            try clear hcz88_3
            try clear hcz88_4
            try clear hcz91_0
            try clear hcz91_1
            try clear hcz91_2
            try clear hcz91_3
            try clear hcz91_4
            try clear hcz96_0
            try clear hcz96_1
            try clear hcz96_2
            try clear hcz96_3
            try clear hcz96_4
            try clear hcz99_0
            try clear hcz99_1
            try clear hcz99_2
            try clear hcz99_3
            try clear hcz99_4
            try clear hfz15_0
            try clear hfz15_1
            try clear hfz15_2
            try clear hfz15_3
            try clear hfz15_4
            try clear hfz24_0
            try clear hfz24_1
            try clear hfz24_2
            try clear hfz24_3
            try clear hfz24_4
            try clear hfz27_0
            try clear hfz27_1
            try clear hfz27_2
            try clear hfz27_3
            try clear hfz27_4
            try clear hfz33_0
            try clear hfz33_1
            try clear hfz33_2
            try clear hfz33_3
            try clear hfz33_4
            try clear hfz42_0
            try clear hfz42_1
            try clear hfz42_2
            try clear hfz42_3
            try clear hfz42_4
            try clear hfz50_0
            try clear hfz50_1
            try clear hfz50_2
            try clear hfz50_3
            try clear hfz50_4
            try clear hfz53_0
            try clear hfz53_1
            try clear hfz53_2
            try clear hfz53_3
            try clear hfz53_4
            try clear hfz58_0
            try clear hfz58_1
            try clear hfz58_2
            try clear hfz58_3
            try clear hfz58_4
            try clear hfz61_0
            try clear hfz61_1
            try clear hfz61_2
            try clear hfz61_3
            try clear hfz61_4
            try clear hfz7_0
            try clear hfz7_1
            try clear hfz7_2
            try clear hfz7_3
            try clear hfz7_4
            try clear hfz80_0
            try clear hfz80_1
            try clear hfz80_2
            try clear hfz80_3
            try clear hfz80_4
            try clear hfz88_0
            try clear hfz88_1
            try clear hfz88_2
            try clear hfz88_3
            try clear hfz88_4
            try clear hfz91_0
            try clear hfz91_1
            try clear hfz91_2
            try clear hfz91_3
            try clear hfz91_4
            try clear hfz96_0
            try clear hfz96_1
            try clear hfz96_2
            try clear hfz96_3
            try clear hfz96_4
            try clear hfz99_0
            try clear hfz99_1
            try clear hfz99_2
            try clear hfz99_3
            try clear hfz99_4
            try clear p2
            obtain ⟨kq, HA, HJ100, HO_258000, HO_258001, HO_258002, HO_270000, HO_270001, HO_270002, HO_283000, HO_283001, HO_283002, BK232, BK257, BK269, BK282, HB⟩ := hcut
            cases kq with
            | zero => exact absurd HA.out (by simp [laws_FnExactSummed.j5])
            | succ kj100 =>
             have H := HA.out
             clear HA
             simp only [laws_FnExactSummed.j5] at H
             replace H := Option.bind_eq_some_iff.mp H
             obtain ⟨⟨t301, t302, t303, t304⟩, A1030, H⟩ := H
             replace H : ((laws_heldMemory.f kj100 t302 t303 t304 t279 t280 1).bind fun t305 => (if t305 < 0 then (some false) else (laws_FnExactSummed.j6 kj100 a1 a2 t256 t301 t305 l0_0 l0_1 l0_2 a0_3 a0_4 t245 t248 t251 t254 t255 t302 t303 t304 t279 t280))) = some r := H
             have A103 := Aside0.mk A1030
             clear A1030
             replace H := Option.bind_eq_some_iff.mp H
             obtain ⟨t305, A1040, H⟩ := H
             replace H : (if t305 < 0 then (some false) else (laws_FnExactSummed.j6 kj100 a1 a2 t256 t301 t305 l0_0 l0_1 l0_2 a0_3 a0_4 t245 t248 t251 t254 t255 t302 t303 t304 t279 t280)) = some r := H
             have A104 := Aside0.mk A1040
             clear A1040
             have HC105 := Aside0.mk H
             clear H
             have hnb106 := NB282_232.out
             have hnc106 := NB232_282.out
             have hnb107 := NB282_257.out
             have hnc107 := NB257_282.out
             have hnb108 := NB282_269.out
             have hnc108 := NB269_282.out
             have hcz109_0 : wc.cell? ⟨gb282, 0, none⟩ = some (.slice Ao38 t270.length co38) := (blk_cell BK282.out 0).trans rfl
             have hcz109_1 : wc.cell? ⟨gb282, 1, none⟩ = some (.slice Ao43 t273.length co43) := (blk_cell BK282.out 1).trans rfl
             have hcz109_2 : wc.cell? ⟨gb282, 2, none⟩ = some (.slice Ao44 t276.length co44) := (blk_cell BK282.out 2).trans rfl
             have hcz109_3 : wc.cell? ⟨gb282, 3, none⟩ = some (.int .i64 t279) := (blk_cell BK282.out 3).trans rfl
             have hcz109_4 : wc.cell? ⟨gb282, 4, none⟩ = some (.int .i64 t280) := (blk_cell BK282.out 4).trans rfl
             have hfz109_0 := blk_frozen BK282.out 0
             have hfz109_1 := blk_frozen BK282.out 1
             have hfz109_2 := blk_frozen BK282.out 2
             have hfz109_3 := blk_frozen BK282.out 3
             have hfz109_4 := blk_frozen BK282.out 4
             go_upto_if 77 with (first | ((with_reducible refine gate_callee (f := 15) rfl ?_); refine goesL_ (some 72) rfl rfl Try.func15 (by kernel_rfl) rfl #[.agg #[.slice Ao38 t270.length co38, .slice Ao43 t273.length co43, .slice Ao44 t276.length co44, .int .i64 t279, .int .i64 t280], .int .i64 1] rfl (by (try simp only [List.map_toArray, List.map_cons, List.map_nil]); first | done | rfl | (simp only [List.length_drop, List.length_take]; rfl)) ?_; (with_reducible refine (laws_markMemory.calls kj100 (fun k_ => some k_ = (.slice Ao38 t270.length co38 : Value).ownBlock) (.slice Ao38 t270.length co38) t270 (fun k_ => some k_ = (.slice Ao43 t273.length co43 : Value).ownBlock) (.slice Ao43 t273.length co43) t273 (fun k_ => some k_ = (.slice Ao44 t276.length co44 : Value).ownBlock) (.slice Ao44 t276.length co44) t276 t279 t280 1 t301 t302 t303 t304 w _ ?side1 ?side2 ?side3 ?side4 ?side5 ?side6 A103.out).mono ?_); (case side1 => repeat (first | (with_reducible first | exact HB.out | apply below_alloc | apply pw_below_drewN | apply below_drew1 | refine below_set ?_ GE232.out | refine below_set ?_ GE257.out | refine below_set ?_ GE269.out | refine below_set ?_ GE282.out) | exact HB.out)); (case side2 => exact Kd.R_tight rfl HO_283000.out); (case side3 => exact Kd.R_tight rfl HO_283001.out); (case side4 => exact fun k_ e_ => (HO_283001.out.1 k_ e_.symm).2.2.2.2); (case side5 => exact Kd.R_tight rfl HO_283002.out); (case side6 => exact fun k_ e_ => (HO_283002.out.1 k_ e_.symm).2.2.2.2); rintro e w110 ⟨rfl, hy0, hy1, hy2, hb, hkp⟩; refine ⟨_, rfl, ?_⟩; have n0_ := Aside0.mk (Kd.R_mono (ok' := fun k_ => some k_ ≠ (.slice Ao30 t297.length co30 : Value).ownBlock ∧ some k_ ≠ (.slice Ao38 t270.length co38 : Value).ownBlock) (Kd.R_keptB ((Kd.R_apart' (Kd.R_apart' HO_258000.out (Kd.R_typed HO_283001.out) (by decide)) (Kd.R_typed HO_283002.out) (by decide))) hkp (fun k_ hk_ hs_ => Or.elim hs_ (fun e_ => (hk_.1.1.2) e_) (fun e_ => Or.elim e_ (fun e_ => (hk_.1.2) e_) (fun e_ => (hk_.2) e_)))) (fun k_ hk_ => ⟨hk_.1.1.1.1, hk_.1.1.1.2⟩)); have n1_ := Aside0.mk (Kd.R_mono (ok' := fun k_ => some k_ ≠ (.slice Ao26 t251.length co26 : Value).ownBlock ∧ some k_ ≠ (.slice Ao34 t298.length co34 : Value).ownBlock ∧ some k_ ≠ (.slice Ao35 t299.length co35 : Value).ownBlock ∧ some k_ ≠ (.slice Ao43 t273.length co43 : Value).ownBlock ∧ some k_ ≠ (.slice Ao44 t276.length co44 : Value).ownBlock) (Kd.R_keptB ((Kd.R_apart' HO_258001.out (Kd.R_typed HO_283000.out) (by decide))) hkp (fun k_ hk_ hs_ => Or.elim hs_ (fun e_ => (hk_.2) e_) (fun e_ => Or.elim e_ (fun e_ => (hk_.1.2.2.2.1) e_) (fun e_ => (hk_.1.2.2.2.2) e_)))) (fun k_ hk_ => ⟨hk_.1.1.1, hk_.1.1.2.1, hk_.1.1.2.2.1, hk_.1.1.2.2.2.1, hk_.1.1.2.2.2.2⟩)); have n2_ := Aside0.mk (Kd.R_mono (ok' := fun k_ => some k_ ≠ (.slice Ao25 t248.length co25 : Value).ownBlock ∧ some k_ ≠ (.slice Ao34 t298.length co34 : Value).ownBlock ∧ some k_ ≠ (.slice Ao35 t299.length co35 : Value).ownBlock ∧ some k_ ≠ (.slice Ao43 t273.length co43 : Value).ownBlock ∧ some k_ ≠ (.slice Ao44 t276.length co44 : Value).ownBlock) (Kd.R_keptB ((Kd.R_apart' HO_258002.out (Kd.R_typed HO_283000.out) (by decide))) hkp (fun k_ hk_ hs_ => Or.elim hs_ (fun e_ => (hk_.2) e_) (fun e_ => Or.elim e_ (fun e_ => (hk_.1.2.2.2.1) e_) (fun e_ => (hk_.1.2.2.2.2) e_)))) (fun k_ hk_ => ⟨hk_.1.1.1, hk_.1.1.2.1, hk_.1.1.2.2.1, hk_.1.1.2.2.2.1, hk_.1.1.2.2.2.2⟩)); have n3_ := Aside0.mk (Kd.R_mono (ok' := fun k_ => some k_ ≠ (.slice Ao22 t245.length co22 : Value).ownBlock ∧ some k_ ≠ (.slice Ao38 t270.length co38 : Value).ownBlock) (Kd.R_keptB ((Kd.R_apart' (Kd.R_apart' HO_270000.out (Kd.R_typed HO_283001.out) (by decide)) (Kd.R_typed HO_283002.out) (by decide))) hkp (fun k_ hk_ hs_ => Or.elim hs_ (fun e_ => (hk_.1.1.2) e_) (fun e_ => Or.elim e_ (fun e_ => (hk_.1.2) e_) (fun e_ => (hk_.2) e_)))) (fun k_ hk_ => ⟨hk_.1.1.1.1, hk_.1.1.1.2⟩)); have n4_ := Aside0.mk (Kd.R_mono (ok' := fun k_ => some k_ ≠ (.slice Ao25 t248.length co25 : Value).ownBlock ∧ some k_ ≠ (.slice Ao26 t251.length co26 : Value).ownBlock ∧ some k_ ≠ (.slice Ao35 t299.length co35 : Value).ownBlock ∧ some k_ ≠ (.slice Ao43 t273.length co43 : Value).ownBlock ∧ some k_ ≠ (.slice Ao44 t276.length co44 : Value).ownBlock) (Kd.R_keptB ((Kd.R_apart' HO_270001.out (Kd.R_typed HO_283000.out) (by decide))) hkp (fun k_ hk_ hs_ => Or.elim hs_ (fun e_ => (hk_.2) e_) (fun e_ => Or.elim e_ (fun e_ => (hk_.1.2.2.2.1) e_) (fun e_ => (hk_.1.2.2.2.2) e_)))) (fun k_ hk_ => ⟨hk_.1.1.1, hk_.1.1.2.1, hk_.1.1.2.2.1, hk_.1.1.2.2.2.1, hk_.1.1.2.2.2.2⟩)); have n5_ := Aside0.mk (Kd.R_mono (ok' := fun k_ => some k_ ≠ (.slice Ao25 t248.length co25 : Value).ownBlock ∧ some k_ ≠ (.slice Ao26 t251.length co26 : Value).ownBlock ∧ some k_ ≠ (.slice Ao34 t298.length co34 : Value).ownBlock ∧ some k_ ≠ (.slice Ao43 t273.length co43 : Value).ownBlock ∧ some k_ ≠ (.slice Ao44 t276.length co44 : Value).ownBlock) (Kd.R_keptB ((Kd.R_apart' HO_270002.out (Kd.R_typed HO_283000.out) (by decide))) hkp (fun k_ hk_ hs_ => Or.elim hs_ (fun e_ => (hk_.2) e_) (fun e_ => Or.elim e_ (fun e_ => (hk_.1.2.2.2.1) e_) (fun e_ => (hk_.1.2.2.2.2) e_)))) (fun k_ hk_ => ⟨hk_.1.1.1, hk_.1.1.2.1, hk_.1.1.2.2.1, hk_.1.1.2.2.2.1, hk_.1.1.2.2.2.2⟩)); have n6_ := Aside0.mk (Kd.R_reok rfl hy0 (fun k_ e_ => HO_283000.out.1 k_ e_)); have n7_ := Aside0.mk (Kd.R_reok rfl hy1 (fun k_ e_ => HO_283001.out.1 k_ e_)); have n8_ := Aside0.mk (Kd.R_reok rfl hy2 (fun k_ e_ => HO_283002.out.1 k_ e_)); have n9_ := Aside0.mk (blk_kept (by (with_reducible repeat (first | refine blk_drewN ?_ _ | refine blk_drew ?_ | refine blk_alloc ?_ _)); exact BK232.out) hkp (fun hs_ => Or.elim hs_ (fun e_ => (fun e_ => (Kd.R_ne HO_283000.out BK232.out (by decide)) e_) e_) (fun e_ => Or.elim e_ (fun e_ => (fun e_ => (Kd.R_ne HO_283001.out BK232.out (by decide)) e_) e_) (fun e_ => (fun e_ => (Kd.R_ne HO_283002.out BK232.out (by decide)) e_) e_)))); have n10_ := Aside0.mk (blk_kept (by (with_reducible repeat (first | refine blk_drewN ?_ _ | refine blk_drew ?_ | refine blk_alloc ?_ _)); exact BK257.out) hkp (fun hs_ => Or.elim hs_ (fun e_ => (fun e_ => (Kd.R_ne HO_283000.out BK257.out (by decide)) e_) e_) (fun e_ => Or.elim e_ (fun e_ => (fun e_ => (Kd.R_ne HO_283001.out BK257.out (by decide)) e_) e_) (fun e_ => (fun e_ => (Kd.R_ne HO_283002.out BK257.out (by decide)) e_) e_)))); have n11_ := Aside0.mk (blk_kept (by (with_reducible repeat (first | refine blk_drewN ?_ _ | refine blk_drew ?_ | refine blk_alloc ?_ _)); exact BK269.out) hkp (fun hs_ => Or.elim hs_ (fun e_ => (fun e_ => (Kd.R_ne HO_283000.out BK269.out (by decide)) e_) e_) (fun e_ => Or.elim e_ (fun e_ => (fun e_ => (Kd.R_ne HO_283001.out BK269.out (by decide)) e_) e_) (fun e_ => (fun e_ => (Kd.R_ne HO_283002.out BK269.out (by decide)) e_) e_)))); have n12_ := Aside0.mk (blk_kept (by (with_reducible repeat (first | refine blk_drewN ?_ _ | refine blk_drew ?_ | refine blk_alloc ?_ _)); exact BK282.out) hkp (fun hs_ => Or.elim hs_ (fun e_ => (fun e_ => (Kd.R_ne HO_283000.out BK282.out (by decide)) e_) e_) (fun e_ => Or.elim e_ (fun e_ => (fun e_ => (Kd.R_ne HO_283001.out BK282.out (by decide)) e_) e_) (fun e_ => (fun e_ => (Kd.R_ne HO_283002.out BK282.out (by decide)) e_) e_)))); have n13_ := Aside0.mk (hb); clear HO_258000; clear HO_258001; clear HO_258002; clear HO_270000; clear HO_270001; clear HO_270002; clear HO_283000; clear HO_283001; clear HO_283002; clear BK232; clear BK257; clear BK269; clear BK282; clear HB; have HO_258000 := n0_; have HO_258001 := n1_; have HO_258002 := n2_; have HO_270000 := n3_; have HO_270001 := n4_; have HO_270002 := n5_; have HO_283000 := n6_; have HO_283001 := n7_; have HO_283002 := n8_; have BK232 := n9_; have BK257 := n10_; have BK269 := n11_; have BK282 := n12_; have HB := n13_; clear n0_ n1_ n2_ n3_ n4_ n5_ n6_ n7_ n8_ n9_ n10_ n11_ n12_ n13_; (try clear hb); (try clear hkp); (try clear hy0); (try clear hy1); (try clear hy2); have hcz111_0 : w110.cell? ⟨gb282, 0, none⟩ = some (.slice Ao38 t270.length co38) := (blk_cell BK282.out 0).trans rfl; have hcz111_1 : w110.cell? ⟨gb282, 1, none⟩ = some (.slice Ao43 t273.length co43) := (blk_cell BK282.out 1).trans rfl; have hcz111_2 : w110.cell? ⟨gb282, 2, none⟩ = some (.slice Ao44 t276.length co44) := (blk_cell BK282.out 2).trans rfl; have hcz111_3 : w110.cell? ⟨gb282, 3, none⟩ = some (.int .i64 t279) := (blk_cell BK282.out 3).trans rfl; have hcz111_4 : w110.cell? ⟨gb282, 4, none⟩ = some (.int .i64 t280) := (blk_cell BK282.out 4).trans rfl; have hfz111_0 := blk_frozen BK282.out 0; have hfz111_1 := blk_frozen BK282.out 1; have hfz111_2 := blk_frozen BK282.out 2; have hfz111_3 := blk_frozen BK282.out 3; have hfz111_4 := blk_frozen BK282.out 4) | ((with_reducible refine gate_callee (f := 16) rfl ?_); refine goesL_ (some 75) rfl rfl Try.func16 (by kernel_rfl) rfl #[.agg #[.slice Ao38 t302.length co38, .slice Ao43 t303.length co43, .slice Ao44 t304.length co44, .int .i64 t279, .int .i64 t280], .int .i64 1] rfl (by (try simp only [List.map_toArray, List.map_cons, List.map_nil]); first | done | (rw [show t302.length = t270.length from (Kd.R_reads' HO_283000.out).1.symm, show t303.length = t273.length from (Kd.R_reads' HO_283001.out).1.symm, show t304.length = t276.length from (Kd.R_reads' HO_283002.out).1.symm] <;> rfl) | rfl | (simp only [List.length_drop, List.length_take]; rfl)) ?_; (with_reducible refine (laws_heldMemory.calls kj100 _ _ t302 _ _ t303 _ _ t304 t279 t280 1 t305 _ ?side1 ?side2 ?side3 ?side4 ?side5 ?side6 A104.out).mono ?_); (case side1 => repeat (first | exact (Kd.R_reads' HO_283000.out).2.2 | (with_reducible refine Kd.C_alloc ?_ _) | (with_reducible refine Kd.C_drewN ?_ _) | (with_reducible refine Kd.C_drew ?_))); (case side2 => rw [show t302.length = t270.length from (Kd.R_reads' HO_283000.out).1.symm]; exact (Kd.R_reads' HO_283000.out).2.1); (case side3 => repeat (first | exact (Kd.R_reads' HO_283001.out).2.2 | (with_reducible refine Kd.C_alloc ?_ _) | (with_reducible refine Kd.C_drewN ?_ _) | (with_reducible refine Kd.C_drew ?_))); (case side4 => rw [show t303.length = t273.length from (Kd.R_reads' HO_283001.out).1.symm]; exact (Kd.R_reads' HO_283001.out).2.1); (case side5 => repeat (first | exact (Kd.R_reads' HO_283002.out).2.2 | (with_reducible refine Kd.C_alloc ?_ _) | (with_reducible refine Kd.C_drewN ?_ _) | (with_reducible refine Kd.C_drew ?_))); (case side6 => rw [show t304.length = t276.length from (Kd.R_reads' HO_283002.out).1.symm]; exact (Kd.R_reads' HO_283002.out).2.1); rintro e w112 ⟨rfl, hb⟩; refine ⟨_, rfl, ?_⟩; have n0_ := Aside0.mk (Kd.R_below (by (with_reducible repeat (first | apply Kd.R_alloc | apply Kd.R_drewN | apply Kd.R_drew)); exact HO_258000.out) hb); have n1_ := Aside0.mk (Kd.R_below (by (with_reducible repeat (first | apply Kd.R_alloc | apply Kd.R_drewN | apply Kd.R_drew)); exact HO_258001.out) hb); have n2_ := Aside0.mk (Kd.R_below (by (with_reducible repeat (first | apply Kd.R_alloc | apply Kd.R_drewN | apply Kd.R_drew)); exact HO_258002.out) hb); have n3_ := Aside0.mk (Kd.R_below (by (with_reducible repeat (first | apply Kd.R_alloc | apply Kd.R_drewN | apply Kd.R_drew)); exact HO_270000.out) hb); have n4_ := Aside0.mk (Kd.R_below (by (with_reducible repeat (first | apply Kd.R_alloc | apply Kd.R_drewN | apply Kd.R_drew)); exact HO_270001.out) hb); have n5_ := Aside0.mk (Kd.R_below (by (with_reducible repeat (first | apply Kd.R_alloc | apply Kd.R_drewN | apply Kd.R_drew)); exact HO_270002.out) hb); have n6_ := Aside0.mk (Kd.R_below (by (with_reducible repeat (first | apply Kd.R_alloc | apply Kd.R_drewN | apply Kd.R_drew)); exact HO_283000.out) hb); have n7_ := Aside0.mk (Kd.R_below (by (with_reducible repeat (first | apply Kd.R_alloc | apply Kd.R_drewN | apply Kd.R_drew)); exact HO_283001.out) hb); have n8_ := Aside0.mk (Kd.R_below (by (with_reducible repeat (first | apply Kd.R_alloc | apply Kd.R_drewN | apply Kd.R_drew)); exact HO_283002.out) hb); have n9_ := Aside0.mk (blk_below (g := gb232) (o := .cells #[.slice A0_0 l0_0.length c0_0, .slice A0_1 l0_1.length c0_1, .slice A0_2 l0_2.length c0_2, .int .i64 a0_3, .int .i64 a0_4] 25 (0, 0)) (by (with_reducible repeat (first | refine blk_drewN ?_ _ | refine blk_drew ?_ | refine blk_alloc ?_ _)); exact BK232.out) hb); have n10_ := Aside0.mk (blk_below (g := gb257) (o := .cells #[.slice Ao22 t245.length co22, .slice Ao25 t248.length co25, .slice Ao26 t251.length co26, .int .i64 t254, .int .i64 t255] 29 (0, 0)) (by (with_reducible repeat (first | refine blk_drewN ?_ _ | refine blk_drew ?_ | refine blk_alloc ?_ _)); exact BK257.out) hb); have n11_ := Aside0.mk (blk_below (g := gb269) (o := .cells #[.slice Ao30 t297.length co30, .slice Ao34 t298.length co34, .slice Ao35 t299.length co35, .int .i64 t267, .int .i64 t268] 29 (0, 0)) (by (with_reducible repeat (first | refine blk_drewN ?_ _ | refine blk_drew ?_ | refine blk_alloc ?_ _)); exact BK269.out) hb); have n12_ := Aside0.mk (blk_below (g := gb282) (o := .cells #[.slice Ao38 t270.length co38, .slice Ao43 t273.length co43, .slice Ao44 t276.length co44, .int .i64 t279, .int .i64 t280] 29 (0, 0)) (by (with_reducible repeat (first | refine blk_drewN ?_ _ | refine blk_drew ?_ | refine blk_alloc ?_ _)); exact BK282.out) hb); have n13_ := Aside0.mk (below_step (by repeat (first | (with_reducible first | exact HB.out | apply below_alloc | apply pw_below_drewN | apply below_drew1 | refine below_set ?_ GE232.out | refine below_set ?_ GE257.out | refine below_set ?_ GE269.out | refine below_set ?_ GE282.out) | exact HB.out)) hb); clear HO_258000; clear HO_258001; clear HO_258002; clear HO_270000; clear HO_270001; clear HO_270002; clear HO_283000; clear HO_283001; clear HO_283002; clear BK232; clear BK257; clear BK269; clear BK282; clear HB; have HO_258000 := n0_; have HO_258001 := n1_; have HO_258002 := n2_; have HO_270000 := n3_; have HO_270001 := n4_; have HO_270002 := n5_; have HO_283000 := n6_; have HO_283001 := n7_; have HO_283002 := n8_; have BK232 := n9_; have BK257 := n10_; have BK269 := n11_; have BK282 := n12_; have HB := n13_; clear n0_ n1_ n2_ n3_ n4_ n5_ n6_ n7_ n8_ n9_ n10_ n11_ n12_ n13_; (try clear hb); (try clear hb2); (try clear hk); (try clear hi)))
             (try simp only [Act.put, List.setIfInBounds_toArray, List.set_cons_zero, List.set_cons_succ])
             go_cut [] (fun wc => ∃ (kq : Nat), Aside0 (laws_FnExactSummed.j6 kq a1 a2 t256 t301 t305 l0_0 l0_1 l0_2 a0_3 a0_4 t245 t248 t251 t254 t255 t302 t303 t304 t279 t280 = some r) ∧ Aside0 (kq ≤ kj100) ∧ Aside0 (Kd.R k96 96 wc w.heap.size (fun k_ => some k_ ≠ ((.slice Ao30 t297.length co30) : Value).ownBlock ∧ some k_ ≠ ((.slice Ao38 t270.length co38) : Value).ownBlock) (.slice Ao22 t245.length co22) t245) ∧ Aside0 (Kd.R (Kd.int .i64) 3 wc w.heap.size (fun k_ => some k_ ≠ ((.slice Ao26 t251.length co26) : Value).ownBlock ∧ some k_ ≠ ((.slice Ao34 t298.length co34) : Value).ownBlock ∧ some k_ ≠ ((.slice Ao35 t299.length co35) : Value).ownBlock ∧ some k_ ≠ ((.slice Ao43 t273.length co43) : Value).ownBlock ∧ some k_ ≠ ((.slice Ao44 t276.length co44) : Value).ownBlock) (.slice Ao25 t248.length co25) t248) ∧ Aside0 (Kd.R (Kd.int .i64) 3 wc w.heap.size (fun k_ => some k_ ≠ ((.slice Ao25 t248.length co25) : Value).ownBlock ∧ some k_ ≠ ((.slice Ao34 t298.length co34) : Value).ownBlock ∧ some k_ ≠ ((.slice Ao35 t299.length co35) : Value).ownBlock ∧ some k_ ≠ ((.slice Ao43 t273.length co43) : Value).ownBlock ∧ some k_ ≠ ((.slice Ao44 t276.length co44) : Value).ownBlock) (.slice Ao26 t251.length co26) t251) ∧ Aside0 (Kd.R k96 96 wc w.heap.size (fun k_ => some k_ ≠ ((.slice Ao22 t245.length co22) : Value).ownBlock ∧ some k_ ≠ ((.slice Ao38 t270.length co38) : Value).ownBlock) (.slice Ao30 t297.length co30) t297) ∧ Aside0 (Kd.R (Kd.int .i64) 3 wc w.heap.size (fun k_ => some k_ ≠ ((.slice Ao25 t248.length co25) : Value).ownBlock ∧ some k_ ≠ ((.slice Ao26 t251.length co26) : Value).ownBlock ∧ some k_ ≠ ((.slice Ao35 t299.length co35) : Value).ownBlock ∧ some k_ ≠ ((.slice Ao43 t273.length co43) : Value).ownBlock ∧ some k_ ≠ ((.slice Ao44 t276.length co44) : Value).ownBlock) (.slice Ao34 t298.length co34) t298) ∧ Aside0 (Kd.R (Kd.int .i64) 3 wc w.heap.size (fun k_ => some k_ ≠ ((.slice Ao25 t248.length co25) : Value).ownBlock ∧ some k_ ≠ ((.slice Ao26 t251.length co26) : Value).ownBlock ∧ some k_ ≠ ((.slice Ao34 t298.length co34) : Value).ownBlock ∧ some k_ ≠ ((.slice Ao43 t273.length co43) : Value).ownBlock ∧ some k_ ≠ ((.slice Ao44 t276.length co44) : Value).ownBlock) (.slice Ao35 t299.length co35) t299) ∧ Aside0 (Kd.R k96 96 wc w.heap.size (fun k_ => some k_ ≠ ((.slice Ao22 t245.length co22) : Value).ownBlock ∧ some k_ ≠ ((.slice Ao30 t297.length co30) : Value).ownBlock) (.slice Ao38 t270.length co38) t302) ∧ Aside0 (Kd.R (Kd.int .i64) 3 wc w.heap.size (fun k_ => some k_ ≠ ((.slice Ao25 t248.length co25) : Value).ownBlock ∧ some k_ ≠ ((.slice Ao26 t251.length co26) : Value).ownBlock ∧ some k_ ≠ ((.slice Ao34 t298.length co34) : Value).ownBlock ∧ some k_ ≠ ((.slice Ao35 t299.length co35) : Value).ownBlock ∧ some k_ ≠ ((.slice Ao44 t276.length co44) : Value).ownBlock) (.slice Ao43 t273.length co43) t303) ∧ Aside0 (Kd.R (Kd.int .i64) 3 wc w.heap.size (fun k_ => some k_ ≠ ((.slice Ao25 t248.length co25) : Value).ownBlock ∧ some k_ ≠ ((.slice Ao26 t251.length co26) : Value).ownBlock ∧ some k_ ≠ ((.slice Ao34 t298.length co34) : Value).ownBlock ∧ some k_ ≠ ((.slice Ao35 t299.length co35) : Value).ownBlock ∧ some k_ ≠ ((.slice Ao43 t273.length co43) : Value).ownBlock) (.slice Ao44 t276.length co44) t304) ∧ Aside0 (wc.heap[gb232]? = some (.cells #[(.slice A0_0 l0_0.length c0_0), (.slice A0_1 l0_1.length c0_1), (.slice A0_2 l0_2.length c0_2), .int .i64 a0_3, .int .i64 a0_4] 25 (0, 0))) ∧ Aside0 (wc.heap[gb257]? = some (.cells #[(.slice Ao22 t245.length co22), (.slice Ao25 t248.length co25), (.slice Ao26 t251.length co26), .int .i64 t254, .int .i64 t255] 29 (0, 0))) ∧ Aside0 (wc.heap[gb269]? = some (.cells #[(.slice Ao30 t297.length co30), (.slice Ao34 t298.length co34), (.slice Ao35 t299.length co35), .int .i64 t267, .int .i64 t268] 29 (0, 0))) ∧ Aside0 (wc.heap[gb282]? = some (.cells #[(.slice Ao38 t270.length co38), (.slice Ao43 t273.length co43), (.slice Ao44 t276.length co44), .int .i64 t279, .int .i64 t280] 29 (0, 0))) ∧ Aside0 (Below w.heap.size w wc))
             case first =>
              have H := HC105.out
              clear HC105
              by_cases c113 : t305 < 0
              ·
               rw [if_pos c113] at H
               have c113b0 : decide (t305 < 0) = true := decide_eq_true c113
               clear c113
               (first | rw [c113b0] | (simp only [i64_w, i32_w]; rw [c113b0]) | skip)
               obtain rfl := Option.some.inj H
               go_wp2
               go_ret
               exact ⟨by first | rfl | (simp [errW_none, errW_some] <;> rfl) | (simp [*, errW_none, errW_some] <;> rfl), by repeat (first | (with_reducible first | exact HB.out | apply below_alloc | apply pw_below_drewN | apply below_drew1 | refine below_set ?_ GE232.out | refine below_set ?_ GE257.out | refine below_set ?_ GE269.out | refine below_set ?_ GE282.out) | exact HB.out)⟩
              ·
               rw [if_neg c113] at H
               have c113b0 : decide (t305 < 0) = false := decide_eq_false c113
               clear c113
               (first | rw [c113b0] | (simp only [i64_w, i32_w]; rw [c113b0]) | skip)
               have H' := Aside0.mk H
               clear H
               go_wp2
               go_meet
               case rel => exact ⟨_, H', ⟨by have := HJ4.out; have := HJ13.out; have := HJ62.out; have := HJ66.out; have := HJ75.out; have := HJ100.out; first | omega | exact Nat.le_refl _⟩, ⟨by (try simp only [hl270000_75]); (try simp only [hl270001_75]); (try simp only [hl270002_75]); (with_reducible repeat (first | apply Kd.R_alloc | apply Kd.R_drewN | apply Kd.R_drew)); exact HO_258000.out⟩, ⟨by (try simp only [hl270000_75]); (try simp only [hl270001_75]); (try simp only [hl270002_75]); (with_reducible repeat (first | apply Kd.R_alloc | apply Kd.R_drewN | apply Kd.R_drew)); exact HO_258001.out⟩, ⟨by (try simp only [hl270000_75]); (try simp only [hl270001_75]); (try simp only [hl270002_75]); (with_reducible repeat (first | apply Kd.R_alloc | apply Kd.R_drewN | apply Kd.R_drew)); exact HO_258002.out⟩, ⟨by (try simp only [hl270000_75]); (try simp only [hl270001_75]); (try simp only [hl270002_75]); (with_reducible repeat (first | apply Kd.R_alloc | apply Kd.R_drewN | apply Kd.R_drew)); exact HO_270000.out⟩, ⟨by (try simp only [hl270000_75]); (try simp only [hl270001_75]); (try simp only [hl270002_75]); (with_reducible repeat (first | apply Kd.R_alloc | apply Kd.R_drewN | apply Kd.R_drew)); exact HO_270001.out⟩, ⟨by (try simp only [hl270000_75]); (try simp only [hl270001_75]); (try simp only [hl270002_75]); (with_reducible repeat (first | apply Kd.R_alloc | apply Kd.R_drewN | apply Kd.R_drew)); exact HO_270002.out⟩, ⟨by (try simp only [hl270000_75]); (try simp only [hl270001_75]); (try simp only [hl270002_75]); (with_reducible repeat (first | apply Kd.R_alloc | apply Kd.R_drewN | apply Kd.R_drew)); exact HO_283000.out⟩, ⟨by (try simp only [hl270000_75]); (try simp only [hl270001_75]); (try simp only [hl270002_75]); (with_reducible repeat (first | apply Kd.R_alloc | apply Kd.R_drewN | apply Kd.R_drew)); exact HO_283001.out⟩, ⟨by (try simp only [hl270000_75]); (try simp only [hl270001_75]); (try simp only [hl270002_75]); (with_reducible repeat (first | apply Kd.R_alloc | apply Kd.R_drewN | apply Kd.R_drew)); exact HO_283002.out⟩, ⟨by (try simp only [hl270000_75]); (try simp only [hl270001_75]); (try simp only [hl270002_75]); (with_reducible repeat (first | refine blk_drewN ?_ _ | refine blk_drew ?_ | refine blk_alloc ?_ _)); exact BK232.out⟩, ⟨by (try simp only [hl270000_75]); (try simp only [hl270001_75]); (try simp only [hl270002_75]); (with_reducible repeat (first | refine blk_drewN ?_ _ | refine blk_drew ?_ | refine blk_alloc ?_ _)); exact BK257.out⟩, ⟨by (try simp only [hl270000_75]); (try simp only [hl270001_75]); (try simp only [hl270002_75]); (with_reducible repeat (first | refine blk_drewN ?_ _ | refine blk_drew ?_ | refine blk_alloc ?_ _)); exact BK269.out⟩, ⟨by (try simp only [hl270000_75]); (try simp only [hl270001_75]); (try simp only [hl270002_75]); (with_reducible repeat (first | refine blk_drewN ?_ _ | refine blk_drew ?_ | refine blk_alloc ?_ _)); exact BK282.out⟩, ⟨by repeat (first | (with_reducible first | exact HB.out | apply below_alloc | apply pw_below_drewN | apply below_drew1 | refine below_set ?_ GE232.out | refine below_set ?_ GE257.out | refine below_set ?_ GE269.out | refine below_set ?_ GE282.out) | exact HB.out)⟩⟩
             case rest =>
              clear HC105
              try clear c1
              try clear c2
              try clear p2
              try clear c3
              try clear c4
              try clear c5
              try clear c6
              try clear c7
              try clear c8
              try clear c9
              try clear c9b0
              try clear c10
              try clear c11
              try clear c12
              try clear c13
              try clear c14
              try clear c15
              try clear c16
              try clear c23
              try clear c31
              try clear c32
              try clear c39
              try clear c40
              try clear c41
              try clear c46
              try clear c47
              try clear c48
              try clear c49
              try clear c51
              try clear c52
              try clear c55
              try clear c56
              try clear c57
              try clear c59
              try clear c60
              try clear c64
              try clear c74
              try clear c77
              try clear c78
              try clear c79
              try clear c82
              try clear c82b0
              try clear c84
              try clear c85
              try clear c86
              try clear c87
              try clear c89
              try clear c90
              try clear c93
              try clear c94
              try clear c95
              try clear c97
              try clear c98
              try clear c102
              try clear c106
              try clear c107
              try clear c108
              try clear c113
              try clear c113b0
              try clear hcz109_0
              try clear hcz109_1
              try clear hcz109_2
              try clear hcz109_3
              try clear hcz109_4
              try clear hcz111_0
              try clear hcz111_1
              try clear hcz111_2
              try clear hcz111_3
              try clear hcz111_4
              try clear hcz15_0
              try clear hcz15_1
              try clear hcz15_2
              try clear hcz15_3
              try clear hcz15_4
              try clear hcz24_0
              try clear hcz24_1
              try clear hcz24_2
              try clear hcz24_3
              try clear hcz24_4
              try clear hcz27_0
              try clear hcz27_1
              try clear hcz27_2
              try clear hcz27_3
              try clear hcz27_4
              try clear hcz33_0
              try clear hcz33_1
              try clear hcz33_2
              try clear hcz33_3
              try clear hcz33_4
              try clear hcz42_0
              try clear hcz42_1
              try clear hcz42_2
              try clear hcz42_3
              try clear hcz42_4
              try clear hcz50_0
              try clear hcz50_1
              try clear hcz50_2
              try clear hcz50_3
              try clear hcz50_4
              try clear hcz53_0
              try clear hcz53_1
              try clear hcz53_2
              try clear hcz53_3
              try clear hcz53_4
              try clear hcz58_0
              try clear hcz58_1
              try clear hcz58_2
              try clear hcz58_3
              try clear hcz58_4
              try clear hcz61_0
              try clear hcz61_1
              try clear hcz61_2
              try clear hcz61_3
              try clear hcz61_4
              try clear hcz7_0
              try clear hcz7_1
              try clear hcz7_2
              try clear hcz7_3
              try clear hcz7_4
              try clear hcz80_0
              try clear hcz80_1
              try clear hcz80_2
              try clear hcz80_3
              try clear hcz80_4
              try clear hcz88_0
              try clear hcz88_1
              try clear hcz88_2
              try clear hcz88_3
              try clear hcz88_4
              try clear hcz91_0
              try clear hcz91_1
              try clear hcz91_2
              try clear hcz91_3
              try clear hcz91_4
              try clear hcz96_0
              try clear hcz96_1
              try clear hcz96_2
              try clear hcz96_3
              try clear hcz96_4
              try clear hcz99_0
              try clear hcz99_1
              try clear hcz99_2
              try clear hcz99_3
              try clear hcz99_4
              try clear hfz109_0
              try clear hfz109_1
              try clear hfz109_2
              try clear hfz109_3
              try clear hfz109_4
              try clear hfz111_0
              try clear hfz111_1
              try clear hfz111_2
              try clear hfz111_3
              try clear hfz111_4
              try clear hfz15_0
              try clear hfz15_1
              try clear hfz15_2
              try clear hfz15_3
              try clear hfz15_4
              try clear hfz24_0
              try clear hfz24_1
              try clear hfz24_2
              try clear hfz24_3
              try clear hfz24_4
              try clear hfz27_0
              try clear hfz27_1
              try clear hfz27_2
              try clear hfz27_3
              try clear hfz27_4
              try clear hfz33_0
              try clear hfz33_1
              try clear hfz33_2
              try clear hfz33_3
              try clear hfz33_4
              try clear hfz42_0
              try clear hfz42_1
              try clear hfz42_2
              try clear hfz42_3
              try clear hfz42_4
              try clear hfz50_0
              try clear hfz50_1
              try clear hfz50_2
              try clear hfz50_3
              try clear hfz50_4
              try clear hfz53_0
              try clear hfz53_1
              try clear hfz53_2
              try clear hfz53_3
              try clear hfz53_4
              try clear hfz58_0
              try clear hfz58_1
              try clear hfz58_2
              try clear hfz58_3
              try clear hfz58_4
              try clear hfz61_0
              try clear hfz61_1
              try clear hfz61_2
              try clear hfz61_3
              try clear hfz61_4
              try clear hfz7_0
              try clear hfz7_1
              try clear hfz7_2
              try clear hfz7_3
              try clear hfz7_4
              try clear hfz80_0
              try clear hfz80_1
              try clear hfz80_2
              try clear hfz80_3
              try clear hfz80_4
              try clear hfz88_0
              try clear hfz88_1
              try clear hfz88_2
              try clear hfz88_3
              try clear hfz88_4
              try clear hfz91_0
              try clear hfz91_1
              try clear hfz91_2
              try clear hfz91_3
              try clear hfz91_4
              try clear hfz96_0
              try clear hfz96_1
              try clear hfz96_2
              try clear hfz96_3
              try clear hfz96_4
              try clear hfz99_0
              try clear hfz99_1
              try clear hfz99_2
              try clear hfz99_3
              try clear hfz99_4
              try clear p2
              obtain ⟨kq, HA, HJ104, HO_258000, HO_258001, HO_258002, HO_270000, HO_270001, HO_270002, HO_283000, HO_283001, HO_283002, BK232, BK257, BK269, BK282, HB⟩ := hcut
              have hl283000_104 := (Kd.R_reads' HO_283000.out).1
              rw [hl283000_104] at HO_283000
              (try simp only [hl283000_104])
              (try simp only [hl283000_104] at BK232)
              (try simp only [hl283000_104] at BK257)
              (try simp only [hl283000_104] at BK269)
              (try simp only [hl283000_104] at BK282)
              (try simp only [hl283000_104] at HO_258000)
              (try simp only [hl283000_104] at HO_258001)
              (try simp only [hl283000_104] at HO_258002)
              (try simp only [hl283000_104] at HO_270000)
              (try simp only [hl283000_104] at HO_270001)
              (try simp only [hl283000_104] at HO_270002)
              (try simp only [hl283000_104] at HO_283001)
              (try simp only [hl283000_104] at HO_283002)
              have hl283001_104 := (Kd.R_reads' HO_283001.out).1
              rw [hl283001_104] at HO_283001
              (try simp only [hl283001_104])
              (try simp only [hl283001_104] at BK232)
              (try simp only [hl283001_104] at BK257)
              (try simp only [hl283001_104] at BK269)
              (try simp only [hl283001_104] at BK282)
              (try simp only [hl283001_104] at HO_258000)
              (try simp only [hl283001_104] at HO_258001)
              (try simp only [hl283001_104] at HO_258002)
              (try simp only [hl283001_104] at HO_270000)
              (try simp only [hl283001_104] at HO_270001)
              (try simp only [hl283001_104] at HO_270002)
              (try simp only [hl283001_104] at HO_283000)
              (try simp only [hl283001_104] at HO_283002)
              have hl283002_104 := (Kd.R_reads' HO_283002.out).1
              rw [hl283002_104] at HO_283002
              (try simp only [hl283002_104])
              (try simp only [hl283002_104] at BK232)
              (try simp only [hl283002_104] at BK257)
              (try simp only [hl283002_104] at BK269)
              (try simp only [hl283002_104] at BK282)
              (try simp only [hl283002_104] at HO_258000)
              (try simp only [hl283002_104] at HO_258001)
              (try simp only [hl283002_104] at HO_258002)
              (try simp only [hl283002_104] at HO_270000)
              (try simp only [hl283002_104] at HO_270001)
              (try simp only [hl283002_104] at HO_270002)
              (try simp only [hl283002_104] at HO_283000)
              (try simp only [hl283002_104] at HO_283001)
              cases kq with
              | zero => exact absurd HA.out (by simp [laws_FnExactSummed.j6])
              | succ kj104 =>
               have H := HA.out
               clear HA
               simp only [laws_FnExactSummed.j6] at H
               have HC114 := Aside0.mk H
               clear H
               go_upto_if 80 with (fail)
               go_cut [] (fun wc => ∃ (kq : Nat), Aside0 (laws_FnExactSummed.j7 kq a1 a2 t256 t301 l0_0 l0_1 l0_2 a0_3 a0_4 t245 t248 t251 t254 t255 t302 t303 t304 t279 t280 = some r) ∧ Aside0 (kq ≤ kj104) ∧ Aside0 (Kd.R k96 96 wc w.heap.size (fun k_ => some k_ ≠ ((.slice Ao30 t297.length co30) : Value).ownBlock ∧ some k_ ≠ ((.slice Ao38 t302.length co38) : Value).ownBlock) (.slice Ao22 t245.length co22) t245) ∧ Aside0 (Kd.R (Kd.int .i64) 3 wc w.heap.size (fun k_ => some k_ ≠ ((.slice Ao26 t251.length co26) : Value).ownBlock ∧ some k_ ≠ ((.slice Ao34 t298.length co34) : Value).ownBlock ∧ some k_ ≠ ((.slice Ao35 t299.length co35) : Value).ownBlock ∧ some k_ ≠ ((.slice Ao43 t303.length co43) : Value).ownBlock ∧ some k_ ≠ ((.slice Ao44 t304.length co44) : Value).ownBlock) (.slice Ao25 t248.length co25) t248) ∧ Aside0 (Kd.R (Kd.int .i64) 3 wc w.heap.size (fun k_ => some k_ ≠ ((.slice Ao25 t248.length co25) : Value).ownBlock ∧ some k_ ≠ ((.slice Ao34 t298.length co34) : Value).ownBlock ∧ some k_ ≠ ((.slice Ao35 t299.length co35) : Value).ownBlock ∧ some k_ ≠ ((.slice Ao43 t303.length co43) : Value).ownBlock ∧ some k_ ≠ ((.slice Ao44 t304.length co44) : Value).ownBlock) (.slice Ao26 t251.length co26) t251) ∧ Aside0 (Kd.R k96 96 wc w.heap.size (fun k_ => some k_ ≠ ((.slice Ao22 t245.length co22) : Value).ownBlock ∧ some k_ ≠ ((.slice Ao38 t302.length co38) : Value).ownBlock) (.slice Ao30 t297.length co30) t297) ∧ Aside0 (Kd.R (Kd.int .i64) 3 wc w.heap.size (fun k_ => some k_ ≠ ((.slice Ao25 t248.length co25) : Value).ownBlock ∧ some k_ ≠ ((.slice Ao26 t251.length co26) : Value).ownBlock ∧ some k_ ≠ ((.slice Ao35 t299.length co35) : Value).ownBlock ∧ some k_ ≠ ((.slice Ao43 t303.length co43) : Value).ownBlock ∧ some k_ ≠ ((.slice Ao44 t304.length co44) : Value).ownBlock) (.slice Ao34 t298.length co34) t298) ∧ Aside0 (Kd.R (Kd.int .i64) 3 wc w.heap.size (fun k_ => some k_ ≠ ((.slice Ao25 t248.length co25) : Value).ownBlock ∧ some k_ ≠ ((.slice Ao26 t251.length co26) : Value).ownBlock ∧ some k_ ≠ ((.slice Ao34 t298.length co34) : Value).ownBlock ∧ some k_ ≠ ((.slice Ao43 t303.length co43) : Value).ownBlock ∧ some k_ ≠ ((.slice Ao44 t304.length co44) : Value).ownBlock) (.slice Ao35 t299.length co35) t299) ∧ Aside0 (Kd.R k96 96 wc w.heap.size (fun k_ => some k_ ≠ ((.slice Ao22 t245.length co22) : Value).ownBlock ∧ some k_ ≠ ((.slice Ao30 t297.length co30) : Value).ownBlock) (.slice Ao38 t302.length co38) t302) ∧ Aside0 (Kd.R (Kd.int .i64) 3 wc w.heap.size (fun k_ => some k_ ≠ ((.slice Ao25 t248.length co25) : Value).ownBlock ∧ some k_ ≠ ((.slice Ao26 t251.length co26) : Value).ownBlock ∧ some k_ ≠ ((.slice Ao34 t298.length co34) : Value).ownBlock ∧ some k_ ≠ ((.slice Ao35 t299.length co35) : Value).ownBlock ∧ some k_ ≠ ((.slice Ao44 t304.length co44) : Value).ownBlock) (.slice Ao43 t303.length co43) t303) ∧ Aside0 (Kd.R (Kd.int .i64) 3 wc w.heap.size (fun k_ => some k_ ≠ ((.slice Ao25 t248.length co25) : Value).ownBlock ∧ some k_ ≠ ((.slice Ao26 t251.length co26) : Value).ownBlock ∧ some k_ ≠ ((.slice Ao34 t298.length co34) : Value).ownBlock ∧ some k_ ≠ ((.slice Ao35 t299.length co35) : Value).ownBlock ∧ some k_ ≠ ((.slice Ao43 t303.length co43) : Value).ownBlock) (.slice Ao44 t304.length co44) t304) ∧ Aside0 (wc.heap[gb232]? = some (.cells #[(.slice A0_0 l0_0.length c0_0), (.slice A0_1 l0_1.length c0_1), (.slice A0_2 l0_2.length c0_2), .int .i64 a0_3, .int .i64 a0_4] 25 (0, 0))) ∧ Aside0 (wc.heap[gb257]? = some (.cells #[(.slice Ao22 t245.length co22), (.slice Ao25 t248.length co25), (.slice Ao26 t251.length co26), .int .i64 t254, .int .i64 t255] 29 (0, 0))) ∧ Aside0 (wc.heap[gb269]? = some (.cells #[(.slice Ao30 t297.length co30), (.slice Ao34 t298.length co34), (.slice Ao35 t299.length co35), .int .i64 t267, .int .i64 t268] 29 (0, 0))) ∧ Aside0 (wc.heap[gb282]? = some (.cells #[(.slice Ao38 t302.length co38), (.slice Ao43 t303.length co43), (.slice Ao44 t304.length co44), .int .i64 t279, .int .i64 t280] 29 (0, 0))) ∧ Aside0 (Below w.heap.size w wc))
               case first =>
                have H := HC114.out
                clear HC114
                by_cases c115 : t305 = t301
                ·
                 rw [if_pos c115] at H
                 have c115b0 : (t305 == t301) = true := beq_iff_eq.mpr c115
                 have c115b1 : (t305 != t301) = false := bne_eq_false_iff_eq.mpr c115
                 clear c115
                 (first | rw [c115b0] | (simp only [i64_w, i32_w]; rw [c115b0]) | skip)
                 have H' := Aside0.mk H
                 clear H
                 go_wp2
                 go_meet
                 case rel => exact ⟨_, H', ⟨by have := HJ4.out; have := HJ13.out; have := HJ62.out; have := HJ66.out; have := HJ75.out; have := HJ100.out; have := HJ104.out; first | omega | exact Nat.le_refl _⟩, ⟨by (try simp only [hl270000_75]); (try simp only [hl270001_75]); (try simp only [hl270002_75]); (try simp only [hl283000_104]); (try simp only [hl283001_104]); (try simp only [hl283002_104]); (with_reducible repeat (first | apply Kd.R_alloc | apply Kd.R_drewN | apply Kd.R_drew)); exact HO_258000.out⟩, ⟨by (try simp only [hl270000_75]); (try simp only [hl270001_75]); (try simp only [hl270002_75]); (try simp only [hl283000_104]); (try simp only [hl283001_104]); (try simp only [hl283002_104]); (with_reducible repeat (first | apply Kd.R_alloc | apply Kd.R_drewN | apply Kd.R_drew)); exact HO_258001.out⟩, ⟨by (try simp only [hl270000_75]); (try simp only [hl270001_75]); (try simp only [hl270002_75]); (try simp only [hl283000_104]); (try simp only [hl283001_104]); (try simp only [hl283002_104]); (with_reducible repeat (first | apply Kd.R_alloc | apply Kd.R_drewN | apply Kd.R_drew)); exact HO_258002.out⟩, ⟨by (try simp only [hl270000_75]); (try simp only [hl270001_75]); (try simp only [hl270002_75]); (try simp only [hl283000_104]); (try simp only [hl283001_104]); (try simp only [hl283002_104]); (with_reducible repeat (first | apply Kd.R_alloc | apply Kd.R_drewN | apply Kd.R_drew)); exact HO_270000.out⟩, ⟨by (try simp only [hl270000_75]); (try simp only [hl270001_75]); (try simp only [hl270002_75]); (try simp only [hl283000_104]); (try simp only [hl283001_104]); (try simp only [hl283002_104]); (with_reducible repeat (first | apply Kd.R_alloc | apply Kd.R_drewN | apply Kd.R_drew)); exact HO_270001.out⟩, ⟨by (try simp only [hl270000_75]); (try simp only [hl270001_75]); (try simp only [hl270002_75]); (try simp only [hl283000_104]); (try simp only [hl283001_104]); (try simp only [hl283002_104]); (with_reducible repeat (first | apply Kd.R_alloc | apply Kd.R_drewN | apply Kd.R_drew)); exact HO_270002.out⟩, ⟨by (try simp only [hl270000_75]); (try simp only [hl270001_75]); (try simp only [hl270002_75]); (try simp only [hl283000_104]); (try simp only [hl283001_104]); (try simp only [hl283002_104]); (with_reducible repeat (first | apply Kd.R_alloc | apply Kd.R_drewN | apply Kd.R_drew)); exact HO_283000.out⟩, ⟨by (try simp only [hl270000_75]); (try simp only [hl270001_75]); (try simp only [hl270002_75]); (try simp only [hl283000_104]); (try simp only [hl283001_104]); (try simp only [hl283002_104]); (with_reducible repeat (first | apply Kd.R_alloc | apply Kd.R_drewN | apply Kd.R_drew)); exact HO_283001.out⟩, ⟨by (try simp only [hl270000_75]); (try simp only [hl270001_75]); (try simp only [hl270002_75]); (try simp only [hl283000_104]); (try simp only [hl283001_104]); (try simp only [hl283002_104]); (with_reducible repeat (first | apply Kd.R_alloc | apply Kd.R_drewN | apply Kd.R_drew)); exact HO_283002.out⟩, ⟨by (try simp only [hl270000_75]); (try simp only [hl270001_75]); (try simp only [hl270002_75]); (try simp only [hl283000_104]); (try simp only [hl283001_104]); (try simp only [hl283002_104]); (with_reducible repeat (first | refine blk_drewN ?_ _ | refine blk_drew ?_ | refine blk_alloc ?_ _)); exact BK232.out⟩, ⟨by (try simp only [hl270000_75]); (try simp only [hl270001_75]); (try simp only [hl270002_75]); (try simp only [hl283000_104]); (try simp only [hl283001_104]); (try simp only [hl283002_104]); (with_reducible repeat (first | refine blk_drewN ?_ _ | refine blk_drew ?_ | refine blk_alloc ?_ _)); exact BK257.out⟩, ⟨by (try simp only [hl270000_75]); (try simp only [hl270001_75]); (try simp only [hl270002_75]); (try simp only [hl283000_104]); (try simp only [hl283001_104]); (try simp only [hl283002_104]); (with_reducible repeat (first | refine blk_drewN ?_ _ | refine blk_drew ?_ | refine blk_alloc ?_ _)); exact BK269.out⟩, ⟨by (try simp only [hl270000_75]); (try simp only [hl270001_75]); (try simp only [hl270002_75]); (try simp only [hl283000_104]); (try simp only [hl283001_104]); (try simp only [hl283002_104]); (with_reducible repeat (first | refine blk_drewN ?_ _ | refine blk_drew ?_ | refine blk_alloc ?_ _)); exact BK282.out⟩, ⟨by repeat (first | (with_reducible first | exact HB.out | apply below_alloc | apply pw_below_drewN | apply below_drew1 | refine below_set ?_ GE232.out | refine below_set ?_ GE257.out | refine below_set ?_ GE269.out | refine below_set ?_ GE282.out) | exact HB.out)⟩⟩
                ·
                 rw [if_neg c115] at H
                 have c115b0 : (t305 == t301) = false := beq_eq_false_iff_ne.mpr c115
                 have c115b1 : (t305 != t301) = true := bne_iff_ne.mpr c115
                 (first | rw [c115b0] | (simp only [i64_w, i32_w]; rw [c115b0]) | skip)
                 obtain rfl := Option.some.inj H
                 go_wp2
                 go_ret
                 exact ⟨by first | rfl | (simp [errW_none, errW_some] <;> rfl) | (simp [*, errW_none, errW_some] <;> rfl), by repeat (first | (with_reducible first | exact HB.out | apply below_alloc | apply pw_below_drewN | apply below_drew1 | refine below_set ?_ GE232.out | refine below_set ?_ GE257.out | refine below_set ?_ GE269.out | refine below_set ?_ GE282.out) | exact HB.out)⟩
               case rest =>
                (repeat revert ‹List S96›)
                (repeat revert ‹S96›)
                (repeat revert ‹List S98›)
                (repeat revert ‹S98›)
                (repeat revert ‹Nat›)
                (repeat revert ‹Int›)
                (repeat revert ‹Bool›)
                (repeat revert ‹Value›)
                (repeat revert ‹World›)
                (repeat revert ‹Option Addr›)
                (repeat revert ‹ByteArray›)
                (repeat revert ‹List Int›)
                (repeat revert ‹List ByteArray›)
                (repeat revert ‹List Value›)
                (repeat revert ‹Act → World → Prop›)
                (repeat revert ‹Act›)
                exact hG_.out⟩

end Go.Proofs.Ytodicbbeaidibaa.PFnExactSummed
