/- Written by a program of this session (a turned copy of the kit's print): a contract for each Go function. No condition beside those in each statement. -/
import Derived.Test.YtaoelobgpilmjaaPFnExactSpendx0
import Derived.Test.YtaoelobgpilmjaaPFnExactSpendx1
import Derived.Test.YtaoelobgpilmjaaPFnExactSpendx2
import Derived.Test.YtaoelobgpilmjaaPFnExactSpendx3
import Derived.Test.YtaoelobgpilmjaaPFnExactSpendx4
namespace Go.Proofs.Ytaoelobgpilmjaa.PFnExactSpend
open Go.RowKit Go.Proofs.YtaoelobgpilmjaaW.PrintWords Go.Proofs.YtaoelobgpilmjaaW.PrintLast Go.Proofs.YtaoelobgpilmjaaW.PrintMore
attribute [local go_sem] max2_int min2_int max_two min_two max_three min_three max_four min_four   -- for this text's walks alone
set_option linter.unusedVariables false
set_option linter.unusedSimpArgs false

set_option maxHeartbeats 8000000 in
set_option maxRecDepth 100000 in
theorem laws_FnExactSpend.calls (k : Nat) (A0_0 : Option Addr) (c0_0 : Nat) (l0_0 : List (S129)) (A0_1 : Option Addr) (c0_1 : Nat) (l0_1 : List Int) (A0_2 : Option Addr) (c0_2 : Nat) (l0_2 : List Int) (a0_3 : Int) (a0_4 : Int) (r : Bool) (w : World) (hr0_0 : Kd.C k129 w A0_0 l0_0.length l0_0) (hc0_0 : l0_0.length ≤ c0_0) (hr0_1 : Kd.C (Kd.int .i64) w A0_1 l0_1.length l0_1) (hc0_1 : l0_1.length ≤ c0_1) (hr0_2 : Kd.C (Kd.int .i64) w A0_2 l0_2.length l0_2) (hc0_2 : l0_2.length ≤ c0_2) (h : laws_FnExactSpend.f k l0_0 l0_1 l0_2 a0_3 a0_4 = some r) :
  Calls Try.prog 12 #[.agg #[.slice A0_0 l0_0.length c0_0, .slice A0_1 l0_1.length c0_1, .slice A0_2 l0_2.length c0_2, .int .i64 a0_3, .int .i64 a0_4]] w fun e w' => e = .returned (.bool r) ∧ Below w.heap.size w w' := by
 have hu77 := Try.underlying77
 have hu57 := Try.underlying57
 have HR0_0 := Aside0.mk hr0_0
 have HC0_0 := Aside0.mk hc0_0
 clear hr0_0 hc0_0
 have HR0_1 := Aside0.mk hr0_1
 have HC0_1 := Aside0.mk hc0_1
 clear hr0_1 hc0_1
 have HR0_2 := Aside0.mk hr0_2
 have HC0_2 := Aside0.mk hc0_2
 clear hr0_2 hc0_2
 have HB := Aside0.mk (Below.refl w.heap.size w)
 have H : ((laws_szMemory.f l0_0 l0_1 l0_2 a0_3 a0_4 1048576).bind fun t225 => (if t225 < 0 then (some true) else (laws_FnExactSpend.j0 k l0_0 l0_1 l0_2 a0_3 a0_4))) = some r := h
 clear h
 replace H := Option.bind_eq_some_iff.mp H
 obtain ⟨t225, A20, H⟩ := H
 replace H : (if t225 < 0 then (some true) else (laws_FnExactSpend.j0 k l0_0 l0_1 l0_2 a0_3 a0_4)) = some r := H
 have A2 := Aside0.mk A20
 clear A20
 have HC3 := Aside0.mk H
 clear H
 go_enter Try.func12, Try.ntmps12
 go_upto_if 15 with (first | ((with_reducible refine gate_dst (N := 1) rfl ?_); refine box_event ?hg (N := 1) ?hd (cs := #[.slice A0_0 l0_0.length c0_0, .slice A0_1 l0_1.length c0_1, .slice A0_2 l0_2.length c0_2, .int .i64 a0_3, .int .i64 a0_4]) (t := 77) ?hr ?_; (case hd => rfl); (case hg => rfl); (case hr => first | (go_simp; done) | (go_simp; rfl)); intro gb224 hg w4 hbox hb; have n0_ := Aside0.mk (below_step (by repeat (first | (with_reducible first | exact HB.out | apply below_alloc | apply pw_below_drewN | apply below_drew1) | exact HB.out)) hb); have n1_ := Aside0.mk (hbox); have n2_ := Aside0.mk ((by rw [hg]; exact (below_size (by repeat (first | (with_reducible first | exact HB.out | apply below_alloc | apply pw_below_drewN | apply below_drew1) | exact HB.out))) : w.heap.size ≤ gb224)); have n3_ := Aside0.mk ((by rw [hg]; exact (below_size (by repeat (first | (with_reducible first | exact HB.out | apply below_alloc | apply pw_below_drewN | apply below_drew1) | exact HB.out))) : w.heap.size ≤ gb224)); clear HB; have HB := n0_; have BK224 := n1_; have GW224 := n2_; have GE224 := n3_; clear n0_ n1_ n2_ n3_; clear hb hbox hg; have hcz5_0 : w4.cell? ⟨gb224, 0, none⟩ = some (.slice A0_0 l0_0.length c0_0) := (blk_cell BK224.out 0).trans rfl; have hcz5_1 : w4.cell? ⟨gb224, 1, none⟩ = some (.slice A0_1 l0_1.length c0_1) := (blk_cell BK224.out 1).trans rfl; have hcz5_2 : w4.cell? ⟨gb224, 2, none⟩ = some (.slice A0_2 l0_2.length c0_2) := (blk_cell BK224.out 2).trans rfl; have hcz5_3 : w4.cell? ⟨gb224, 3, none⟩ = some (.int .i64 a0_3) := (blk_cell BK224.out 3).trans rfl; have hcz5_4 : w4.cell? ⟨gb224, 4, none⟩ = some (.int .i64 a0_4) := (blk_cell BK224.out 4).trans rfl; have hfz5_0 := blk_frozen BK224.out 0; have hfz5_1 := blk_frozen BK224.out 1; have hfz5_2 := blk_frozen BK224.out 2; have hfz5_3 := blk_frozen BK224.out 3; have hfz5_4 := blk_frozen BK224.out 4) | ((with_reducible refine gate_callee (f := 51) rfl ?_); refine goesL_ (some 13) rfl rfl Try.func51 (by kernel_rfl) rfl #[.agg #[.slice A0_0 l0_0.length c0_0, .slice A0_1 l0_1.length c0_1, .slice A0_2 l0_2.length c0_2, .int .i64 a0_3, .int .i64 a0_4], .int .i64 1048576] rfl (by (try simp only [List.map_toArray, List.map_cons, List.map_nil]); first | done | rfl | (simp only [List.length_drop, List.length_take]; rfl)) ?_; (with_reducible refine (laws_szMemory.calls _ _ l0_0 _ _ l0_1 _ _ l0_2 a0_3 a0_4 1048576 t225 _ ?side1 ?side2 ?side3 ?side4 ?side5 ?side6 A2.out).mono ?_); (case side1 => repeat (first | exact (Kd.C_below HR0_0.out HB.out) | (with_reducible refine Kd.C_alloc ?_ _) | (with_reducible refine Kd.C_drewN ?_ _) | (with_reducible refine Kd.C_drew ?_))); (case side2 => exact HC0_0.out); (case side3 => repeat (first | exact (Kd.C_below HR0_1.out HB.out) | (with_reducible refine Kd.C_alloc ?_ _) | (with_reducible refine Kd.C_drewN ?_ _) | (with_reducible refine Kd.C_drew ?_))); (case side4 => exact HC0_1.out); (case side5 => repeat (first | exact (Kd.C_below HR0_2.out HB.out) | (with_reducible refine Kd.C_alloc ?_ _) | (with_reducible refine Kd.C_drewN ?_ _) | (with_reducible refine Kd.C_drew ?_))); (case side6 => exact HC0_2.out); rintro e w6 ⟨rfl, hb⟩; refine ⟨_, rfl, ?_⟩; have n0_ := Aside0.mk (blk_below (g := gb224) (o := .cells #[.slice A0_0 l0_0.length c0_0, .slice A0_1 l0_1.length c0_1, .slice A0_2 l0_2.length c0_2, .int .i64 a0_3, .int .i64 a0_4] 77 (0, 0)) (by (with_reducible repeat (first | refine blk_drewN ?_ _ | refine blk_drew ?_ | refine blk_alloc ?_ _)); exact BK224.out) hb); have n1_ := Aside0.mk (below_step (by repeat (first | (with_reducible first | exact HB.out | apply below_alloc | apply pw_below_drewN | apply below_drew1 | refine below_set ?_ GE224.out) | exact HB.out)) hb); clear BK224; clear HB; have BK224 := n0_; have HB := n1_; clear n0_ n1_; (try clear hb); (try clear hb2); (try clear hk); (try clear hi)))
 (try simp only [Act.put, List.setIfInBounds_toArray, List.set_cons_zero, List.set_cons_succ])
 go_cut [] (fun wc => ∃ (kq : Nat), Aside0 (laws_FnExactSpend.j0 kq l0_0 l0_1 l0_2 a0_3 a0_4 = some r) ∧ Aside0 (kq ≤ k) ∧ Aside0 (wc.heap[gb224]? = some (.cells #[(.slice A0_0 l0_0.length c0_0), (.slice A0_1 l0_1.length c0_1), (.slice A0_2 l0_2.length c0_2), .int .i64 a0_3, .int .i64 a0_4] 77 (0, 0))) ∧ Aside0 (Below w.heap.size w wc))
 case first =>
  have H := HC3.out
  clear HC3
  by_cases c7 : t225 < 0
  ·
   rw [if_pos c7] at H
   have c7b0 : decide (t225 < 0) = true := decide_eq_true c7
   clear c7
   (first | rw [c7b0] | (simp only [i64_w, i32_w]; rw [c7b0]) | skip)
   obtain rfl := Option.some.inj H
   go_wp2
   go_ret
   exact ⟨by first | rfl | (simp [errW_none, errW_some] <;> rfl) | (simp [*, errW_none, errW_some] <;> rfl), by repeat (first | (with_reducible first | exact HB.out | apply below_alloc | apply pw_below_drewN | apply below_drew1 | refine below_set ?_ GE224.out) | exact HB.out)⟩
  ·
   rw [if_neg c7] at H
   have c7b0 : decide (t225 < 0) = false := decide_eq_false c7
   clear c7
   (first | rw [c7b0] | (simp only [i64_w, i32_w]; rw [c7b0]) | skip)
   have H' := Aside0.mk H
   clear H
   go_wp2
   go_meet
   case rel => exact ⟨_, H', ⟨by first | omega | exact Nat.le_refl _⟩, ⟨by (with_reducible repeat (first | refine blk_drewN ?_ _ | refine blk_drew ?_ | refine blk_alloc ?_ _)); exact BK224.out⟩, ⟨by repeat (first | (with_reducible first | exact HB.out | apply below_alloc | apply pw_below_drewN | apply below_drew1 | refine below_set ?_ GE224.out) | exact HB.out)⟩⟩
 case rest =>
  clear HC3
  try clear c1
  try clear p2
  try clear c5
  try clear c7
  try clear c7b0
  try clear hcz5_0
  try clear hcz5_1
  try clear hcz5_2
  try clear hcz5_3
  try clear hcz5_4
  try clear hfz5_0
  try clear hfz5_1
  try clear hfz5_2
  try clear hfz5_3
  try clear hfz5_4
  obtain ⟨kq, HA, HJ2, BK224, HB⟩ := hcut
  cases kq with
  | zero => exact absurd HA.out (by simp [laws_FnExactSpend.j0])
  | succ kj2 =>
   have H := HA.out
   clear HA
   simp only [laws_FnExactSpend.j0] at H
   replace H := Option.bind_eq_some_iff.mp H
   obtain ⟨⟨t226, t229, t232, t235, t236⟩, A80, H⟩ := H
   replace H : ((spec_Spend.f t226 t229 t232 t235 t236).bind fun bt237 => ((laws_toMemory.f kj2 l0_0 l0_1 l0_2 a0_3 a0_4).bind fun bt249 => ((impl_Spend.f bt249.1 bt249.2.1 bt249.2.2.1 bt249.2.2.2.1 bt249.2.2.2.2).bind fun bt261 => ((laws_eqMemory.f kj2 bt261.1 bt261.2.1 bt261.2.2.1 bt261.2.2.2.1 bt261.2.2.2.2 bt237.1 bt237.2.1 bt237.2.2.1 bt237.2.2.2.1 bt237.2.2.2.2).bind fun t273 => (if t273 = true then (laws_FnExactSpend.j1 kj2 l0_0 l0_1 l0_2 a0_3 a0_4 bt237.1 bt237.2.1 bt237.2.2.1 bt237.2.2.2.1 bt237.2.2.2.2 bt249.1 bt249.2.1 bt249.2.2.1 bt249.2.2.2.1 bt249.2.2.2.2 bt261.1 bt261.2.1 bt261.2.2.1 bt261.2.2.2.1 bt261.2.2.2.2) else (some false)))))) = some r := H
   have A8 := Aside0.mk A80
   clear A80
   replace H := Option.bind_eq_some_iff.mp H
   obtain ⟨⟨t237, t240, t243, t246, t247⟩, A90, H⟩ := H
   replace H : ((laws_toMemory.f kj2 l0_0 l0_1 l0_2 a0_3 a0_4).bind fun bt249 => ((impl_Spend.f bt249.1 bt249.2.1 bt249.2.2.1 bt249.2.2.2.1 bt249.2.2.2.2).bind fun bt261 => ((laws_eqMemory.f kj2 bt261.1 bt261.2.1 bt261.2.2.1 bt261.2.2.2.1 bt261.2.2.2.2 t237 t240 t243 t246 t247).bind fun t273 => (if t273 = true then (laws_FnExactSpend.j1 kj2 l0_0 l0_1 l0_2 a0_3 a0_4 t237 t240 t243 t246 t247 bt249.1 bt249.2.1 bt249.2.2.1 bt249.2.2.2.1 bt249.2.2.2.2 bt261.1 bt261.2.1 bt261.2.2.1 bt261.2.2.2.1 bt261.2.2.2.2) else (some false))))) = some r := H
   have A9 := Aside0.mk A90
   clear A90
   replace H := Option.bind_eq_some_iff.mp H
   obtain ⟨⟨t249, t252, t255, t258, t259⟩, A100, H⟩ := H
   replace H : ((impl_Spend.f t249 t252 t255 t258 t259).bind fun bt261 => ((laws_eqMemory.f kj2 bt261.1 bt261.2.1 bt261.2.2.1 bt261.2.2.2.1 bt261.2.2.2.2 t237 t240 t243 t246 t247).bind fun t273 => (if t273 = true then (laws_FnExactSpend.j1 kj2 l0_0 l0_1 l0_2 a0_3 a0_4 t237 t240 t243 t246 t247 t249 t252 t255 t258 t259 bt261.1 bt261.2.1 bt261.2.2.1 bt261.2.2.2.1 bt261.2.2.2.2) else (some false)))) = some r := H
   have A10 := Aside0.mk A100
   clear A100
   replace H := Option.bind_eq_some_iff.mp H
   obtain ⟨⟨t261, t264, t267, t270, t271⟩, A110, H⟩ := H
   replace H : ((laws_eqMemory.f kj2 t261 t264 t267 t270 t271 t237 t240 t243 t246 t247).bind fun t273 => (if t273 = true then (laws_FnExactSpend.j1 kj2 l0_0 l0_1 l0_2 a0_3 a0_4 t237 t240 t243 t246 t247 t249 t252 t255 t258 t259 t261 t264 t267 t270 t271) else (some false))) = some r := H
   have A11 := Aside0.mk A110
   clear A110
   replace H := Option.bind_eq_some_iff.mp H
   obtain ⟨t273, A120, H⟩ := H
   replace H : (if t273 = true then (laws_FnExactSpend.j1 kj2 l0_0 l0_1 l0_2 a0_3 a0_4 t237 t240 t243 t246 t247 t249 t252 t255 t258 t259 t261 t264 t267 t270 t271) else (some false)) = some r := H
   have A12 := Aside0.mk A120
   clear A120
   have HC13 := Aside0.mk H
   clear H
   have hcz14_0 : wc.cell? ⟨gb224, 0, none⟩ = some (.slice A0_0 l0_0.length c0_0) := (blk_cell BK224.out 0).trans rfl
   have hcz14_1 : wc.cell? ⟨gb224, 1, none⟩ = some (.slice A0_1 l0_1.length c0_1) := (blk_cell BK224.out 1).trans rfl
   have hcz14_2 : wc.cell? ⟨gb224, 2, none⟩ = some (.slice A0_2 l0_2.length c0_2) := (blk_cell BK224.out 2).trans rfl
   have hcz14_3 : wc.cell? ⟨gb224, 3, none⟩ = some (.int .i64 a0_3) := (blk_cell BK224.out 3).trans rfl
   have hcz14_4 : wc.cell? ⟨gb224, 4, none⟩ = some (.int .i64 a0_4) := (blk_cell BK224.out 4).trans rfl
   have hfz14_0 := blk_frozen BK224.out 0
   have hfz14_1 := blk_frozen BK224.out 1
   have hfz14_2 := blk_frozen BK224.out 2
   have hfz14_3 := blk_frozen BK224.out 3
   have hfz14_4 := blk_frozen BK224.out 4
   go_upto_if 26 with (first | ((with_reducible refine gate_callee (f := 53) rfl ?_); refine goesL_ (some 17) rfl rfl Try.func53 (by kernel_rfl) rfl #[.agg #[.slice A0_0 l0_0.length c0_0, .slice A0_1 l0_1.length c0_1, .slice A0_2 l0_2.length c0_2, .int .i64 a0_3, .int .i64 a0_4]] rfl (by (try simp only [List.map_toArray, List.map_cons, List.map_nil]); first | done | rfl | (simp only [List.length_drop, List.length_take]; rfl)) ?_; (with_reducible refine (laws_toMemory.calls kj2 _ _ l0_0 _ _ l0_1 _ _ l0_2 a0_3 a0_4 t226 t229 t232 t235 t236 _ ?side1 ?side2 ?side3 ?side4 ?side5 ?side6 A8.out).mono ?_); (case side1 => repeat (first | exact (Kd.C_below HR0_0.out HB.out) | (with_reducible refine Kd.C_alloc ?_ _) | (with_reducible refine Kd.C_drewN ?_ _) | (with_reducible refine Kd.C_drew ?_))); (case side2 => exact HC0_0.out); (case side3 => repeat (first | exact (Kd.C_below HR0_1.out HB.out) | (with_reducible refine Kd.C_alloc ?_ _) | (with_reducible refine Kd.C_drewN ?_ _) | (with_reducible refine Kd.C_drew ?_))); (case side4 => exact HC0_1.out); (case side5 => repeat (first | exact (Kd.C_below HR0_2.out HB.out) | (with_reducible refine Kd.C_alloc ?_ _) | (with_reducible refine Kd.C_drewN ?_ _) | (with_reducible refine Kd.C_drew ?_))); (case side6 => exact HC0_2.out); rintro e w15 ⟨v227, v230, v233, rfl, ho0, ho1, ho2, hb⟩; refine ⟨_, rfl, ?_⟩; have n0_ := Aside0.mk (Kd.R_lower ho0 (below_size (by repeat (first | (with_reducible first | exact HB.out | apply below_alloc | apply pw_below_drewN | apply below_drew1 | refine below_set ?_ GE224.out) | exact HB.out)))); have n1_ := Aside0.mk (Kd.R_lower ho1 (below_size (by repeat (first | (with_reducible first | exact HB.out | apply below_alloc | apply pw_below_drewN | apply below_drew1 | refine below_set ?_ GE224.out) | exact HB.out)))); have n2_ := Aside0.mk (Kd.R_lower ho2 (below_size (by repeat (first | (with_reducible first | exact HB.out | apply below_alloc | apply pw_below_drewN | apply below_drew1 | refine below_set ?_ GE224.out) | exact HB.out)))); have n3_ := Aside0.mk (blk_below (g := gb224) (o := .cells #[.slice A0_0 l0_0.length c0_0, .slice A0_1 l0_1.length c0_1, .slice A0_2 l0_2.length c0_2, .int .i64 a0_3, .int .i64 a0_4] 77 (0, 0)) (by (with_reducible repeat (first | refine blk_drewN ?_ _ | refine blk_drew ?_ | refine blk_alloc ?_ _)); exact BK224.out) hb); have n4_ := Aside0.mk (below_step (by repeat (first | (with_reducible first | exact HB.out | apply below_alloc | apply pw_below_drewN | apply below_drew1 | refine below_set ?_ GE224.out) | exact HB.out)) hb); clear BK224; clear HB; have HO228 := n0_; have HO231 := n1_; have HO234 := n2_; have BK224 := n3_; have HB := n4_; clear n0_ n1_ n2_ n3_ n4_; (try clear hb); (try clear hb2); (try clear hk); (try clear hi); (try clear ho0); (try clear ho1); (try clear ho2); obtain ⟨Ao16, co16, eo16⟩ := Kd.R_slice HO228.out; subst eo16; obtain ⟨Ao17, co17, eo17⟩ := Kd.R_slice HO231.out; subst eo17; obtain ⟨Ao18, co18, eo18⟩ := Kd.R_slice HO234.out; subst eo18) | ((with_reducible refine gate_callee (f := 57) rfl ?_); refine goesL_ (some 18) rfl rfl Try.func57 (by kernel_rfl) rfl #[.agg #[.slice Ao16 t226.length co16, .slice Ao17 t229.length co17, .slice Ao18 t232.length co18, .int .i64 t235, .int .i64 t236]] rfl (by (try simp only [List.map_toArray, List.map_cons, List.map_nil]); first | done | rfl | (simp only [List.length_drop, List.length_take]; rfl)) ?_; (with_reducible refine (spec_Spend.calls _ _ t226 _ _ t229 _ _ t232 t235 t236 t237 t240 t243 t246 t247 _ ?side1 ?side2 ?side3 ?side4 ?side5 ?side6 A9.out).mono ?_); (case side1 => repeat (first | exact (Kd.R_reads' HO228.out).2.2 | (with_reducible refine Kd.C_alloc ?_ _) | (with_reducible refine Kd.C_drewN ?_ _) | (with_reducible refine Kd.C_drew ?_))); (case side2 => exact (Kd.R_reads' HO228.out).2.1); (case side3 => repeat (first | exact (Kd.R_reads' HO231.out).2.2 | (with_reducible refine Kd.C_alloc ?_ _) | (with_reducible refine Kd.C_drewN ?_ _) | (with_reducible refine Kd.C_drew ?_))); (case side4 => exact (Kd.R_reads' HO231.out).2.1); (case side5 => repeat (first | exact (Kd.R_reads' HO234.out).2.2 | (with_reducible refine Kd.C_alloc ?_ _) | (with_reducible refine Kd.C_drewN ?_ _) | (with_reducible refine Kd.C_drew ?_))); (case side6 => exact (Kd.R_reads' HO234.out).2.1); rintro e w19 ⟨v238, v241, v244, rfl, ho0, ho1, ho2, hb⟩; refine ⟨_, rfl, ?_⟩; have n0_ := Aside0.mk (Kd.R_elder' (by (with_reducible repeat (first | apply Kd.R_alloc | apply Kd.R_drewN | apply Kd.R_drew)); exact HO228.out) (Kd.R_base ho0) hb); have n1_ := Aside0.mk (Kd.R_mono (Kd.R_told (Kd.R_told (Kd.R_old (by (with_reducible repeat (first | apply Kd.R_alloc | apply Kd.R_drewN | apply Kd.R_drew)); exact HO231.out) hb) (Kd.R_base ho1)) (Kd.R_base ho2)) (fun _ h_ => h_.1)); have n2_ := Aside0.mk (Kd.R_mono (Kd.R_told (Kd.R_told (Kd.R_old (by (with_reducible repeat (first | apply Kd.R_alloc | apply Kd.R_drewN | apply Kd.R_drew)); exact HO234.out) hb) (Kd.R_base ho1)) (Kd.R_base ho2)) (fun _ h_ => h_.1)); have n3_ := Aside0.mk (Kd.R_lower (Kd.R_new' ho0 (Kd.R_lt (by (with_reducible repeat (first | apply Kd.R_alloc | apply Kd.R_drewN | apply Kd.R_drew)); exact HO228.out))) (below_size (by repeat (first | (with_reducible first | exact HB.out | apply below_alloc | apply pw_below_drewN | apply below_drew1 | refine below_set ?_ GE224.out) | exact HB.out)))); have n4_ := Aside0.mk (Kd.R_lower (Kd.R_new' (Kd.R_new' ho1 (Kd.R_lt (by (with_reducible repeat (first | apply Kd.R_alloc | apply Kd.R_drewN | apply Kd.R_drew)); exact HO231.out))) (Kd.R_lt (by (with_reducible repeat (first | apply Kd.R_alloc | apply Kd.R_drewN | apply Kd.R_drew)); exact HO234.out))) (below_size (by repeat (first | (with_reducible first | exact HB.out | apply below_alloc | apply pw_below_drewN | apply below_drew1 | refine below_set ?_ GE224.out) | exact HB.out)))); have n5_ := Aside0.mk (Kd.R_lower (Kd.R_new' (Kd.R_new' ho2 (Kd.R_lt (by (with_reducible repeat (first | apply Kd.R_alloc | apply Kd.R_drewN | apply Kd.R_drew)); exact HO231.out))) (Kd.R_lt (by (with_reducible repeat (first | apply Kd.R_alloc | apply Kd.R_drewN | apply Kd.R_drew)); exact HO234.out))) (below_size (by repeat (first | (with_reducible first | exact HB.out | apply below_alloc | apply pw_below_drewN | apply below_drew1 | refine below_set ?_ GE224.out) | exact HB.out)))); have n6_ := Aside0.mk (blk_below (g := gb224) (o := .cells #[.slice A0_0 l0_0.length c0_0, .slice A0_1 l0_1.length c0_1, .slice A0_2 l0_2.length c0_2, .int .i64 a0_3, .int .i64 a0_4] 77 (0, 0)) (by (with_reducible repeat (first | refine blk_drewN ?_ _ | refine blk_drew ?_ | refine blk_alloc ?_ _)); exact BK224.out) hb); have n7_ := Aside0.mk (below_step (by repeat (first | (with_reducible first | exact HB.out | apply below_alloc | apply pw_below_drewN | apply below_drew1 | refine below_set ?_ GE224.out) | exact HB.out)) hb); clear HO228; clear HO231; clear HO234; clear BK224; clear HB; have HO228 := n0_; have HO231 := n1_; have HO234 := n2_; have HO239 := n3_; have HO242 := n4_; have HO245 := n5_; have BK224 := n6_; have HB := n7_; clear n0_ n1_ n2_ n3_ n4_ n5_ n6_ n7_; (try clear hb); (try clear hb2); (try clear hk); (try clear hi); (try clear ho0); (try clear ho1); (try clear ho2)) | ((with_reducible refine gate_dst (N := 4) rfl ?_); refine box_event ?hg (N := 4) ?hd (cs := #[.slice none 0 0, .slice none 0 0, .slice none 0 0, .int .i64 0, .int .i64 0]) (t := 57) ?hr ?_; (case hd => rfl); (case hg => rfl); (case hr => first | (go_simp; done) | (go_simp; rfl)); intro gb248 hg w20 hbox hb; have n0_ := Aside0.mk (Kd.R_below (by (with_reducible repeat (first | apply Kd.R_alloc | apply Kd.R_drewN | apply Kd.R_drew)); exact HO239.out) hb); have n1_ := Aside0.mk (Kd.R_below (by (with_reducible repeat (first | apply Kd.R_alloc | apply Kd.R_drewN | apply Kd.R_drew)); exact HO242.out) hb); have n2_ := Aside0.mk (Kd.R_below (by (with_reducible repeat (first | apply Kd.R_alloc | apply Kd.R_drewN | apply Kd.R_drew)); exact HO245.out) hb); have n3_ := Aside0.mk (blk_below (g := gb224) (o := .cells #[.slice A0_0 l0_0.length c0_0, .slice A0_1 l0_1.length c0_1, .slice A0_2 l0_2.length c0_2, .int .i64 a0_3, .int .i64 a0_4] 77 (0, 0)) (by (with_reducible repeat (first | refine blk_drewN ?_ _ | refine blk_drew ?_ | refine blk_alloc ?_ _)); exact BK224.out) hb); have n4_ := Aside0.mk (below_step (by repeat (first | (with_reducible first | exact HB.out | apply below_alloc | apply pw_below_drewN | apply below_drew1 | refine below_set ?_ GE224.out) | exact HB.out)) hb); have n5_ := Aside0.mk (hbox); have n6_ := Aside0.mk ((by rw [hg]; exact (below_size (by repeat (first | (with_reducible first | exact HB.out | apply below_alloc | apply pw_below_drewN | apply below_drew1 | refine below_set ?_ GE224.out) | exact HB.out))) : w.heap.size ≤ gb248)); have n7_ := Aside0.mk ((by rw [hg]; exact (below_size (by repeat (first | (with_reducible first | exact HB.out | apply below_alloc | apply pw_below_drewN | apply below_drew1 | refine below_set ?_ GE224.out) | exact HB.out))) : w.heap.size ≤ gb248)); have n8_ := Aside0.mk ((by rw [hg]; exact Nat.ne_of_lt (blk_lt (g := gb224) (o := .cells #[.slice A0_0 l0_0.length c0_0, .slice A0_1 l0_1.length c0_1, .slice A0_2 l0_2.length c0_2, .int .i64 a0_3, .int .i64 a0_4] 77 (0, 0)) (by (with_reducible repeat (first | refine blk_drewN ?_ _ | refine blk_drew ?_ | refine blk_alloc ?_ _)); exact BK224.out)) : gb224 ≠ gb248)); have n9_ := Aside0.mk ((by rw [hg]; exact Nat.ne_of_gt (blk_lt (g := gb224) (o := .cells #[.slice A0_0 l0_0.length c0_0, .slice A0_1 l0_1.length c0_1, .slice A0_2 l0_2.length c0_2, .int .i64 a0_3, .int .i64 a0_4] 77 (0, 0)) (by (with_reducible repeat (first | refine blk_drewN ?_ _ | refine blk_drew ?_ | refine blk_alloc ?_ _)); exact BK224.out)) : gb248 ≠ gb224)); clear HO239; clear HO242; clear HO245; clear BK224; clear HB; have HO239 := n0_; have HO242 := n1_; have HO245 := n2_; have BK224 := n3_; have HB := n4_; have BK248 := n5_; have GW248 := n6_; have GE248 := n7_; have NB224_248 := n8_; have NB248_224 := n9_; clear n0_ n1_ n2_ n3_ n4_ n5_ n6_ n7_ n8_ n9_; clear hb hbox hg; obtain ⟨Ao21, co21, eo21⟩ := Kd.R_slice HO239.out; subst eo21; have hnb22 := NB248_224.out; have hnc22 := NB224_248.out; have hcz23_0 : w20.cell? ⟨gb248, 0, none⟩ = some (.slice none 0 0) := (blk_cell BK248.out 0).trans rfl; have hcz23_1 : w20.cell? ⟨gb248, 1, none⟩ = some (.slice none 0 0) := (blk_cell BK248.out 1).trans rfl; have hcz23_2 : w20.cell? ⟨gb248, 2, none⟩ = some (.slice none 0 0) := (blk_cell BK248.out 2).trans rfl; have hcz23_3 : w20.cell? ⟨gb248, 3, none⟩ = some (.int .i64 0) := (blk_cell BK248.out 3).trans rfl; have hcz23_4 : w20.cell? ⟨gb248, 4, none⟩ = some (.int .i64 0) := (blk_cell BK248.out 4).trans rfl; have hfz23_0 := blk_frozen BK248.out 0; have hfz23_1 := blk_frozen BK248.out 1; have hfz23_2 := blk_frozen BK248.out 2; have hfz23_3 := blk_frozen BK248.out 3; have hfz23_4 := blk_frozen BK248.out 4; obtain ⟨Ao24, co24, eo24⟩ := Kd.R_slice HO242.out; subst eo24; obtain ⟨Ao25, co25, eo25⟩ := Kd.R_slice HO245.out; subst eo25; have hcz26_0 : w20.cell? ⟨gb224, 0, none⟩ = some (.slice A0_0 l0_0.length c0_0) := (blk_cell BK224.out 0).trans rfl; have hcz26_1 : w20.cell? ⟨gb224, 1, none⟩ = some (.slice A0_1 l0_1.length c0_1) := (blk_cell BK224.out 1).trans rfl; have hcz26_2 : w20.cell? ⟨gb224, 2, none⟩ = some (.slice A0_2 l0_2.length c0_2) := (blk_cell BK224.out 2).trans rfl; have hcz26_3 : w20.cell? ⟨gb224, 3, none⟩ = some (.int .i64 a0_3) := (blk_cell BK224.out 3).trans rfl; have hcz26_4 : w20.cell? ⟨gb224, 4, none⟩ = some (.int .i64 a0_4) := (blk_cell BK224.out 4).trans rfl; have hfz26_0 := blk_frozen BK224.out 0; have hfz26_1 := blk_frozen BK224.out 1; have hfz26_2 := blk_frozen BK224.out 2; have hfz26_3 := blk_frozen BK224.out 3; have hfz26_4 := blk_frozen BK224.out 4) | ((with_reducible refine gate_callee (f := 53) rfl ?_); refine goesL_ (some 20) rfl rfl Try.func53 (by kernel_rfl) rfl #[.agg #[.slice A0_0 l0_0.length c0_0, .slice A0_1 l0_1.length c0_1, .slice A0_2 l0_2.length c0_2, .int .i64 a0_3, .int .i64 a0_4]] rfl (by (try simp only [List.map_toArray, List.map_cons, List.map_nil]); first | done | rfl | (simp only [List.length_drop, List.length_take]; rfl)) ?_; (with_reducible refine (laws_toMemory.calls kj2 _ _ l0_0 _ _ l0_1 _ _ l0_2 a0_3 a0_4 t249 t252 t255 t258 t259 _ ?side1 ?side2 ?side3 ?side4 ?side5 ?side6 A10.out).mono ?_); (case side1 => exact Kd.C_below HR0_0.out (by repeat (first | (with_reducible first | exact HB.out | apply below_alloc | apply pw_below_drewN | apply below_drew1 | refine below_set ?_ GE224.out | refine below_set ?_ GE248.out) | exact HB.out))); (case side2 => exact HC0_0.out); (case side3 => exact Kd.C_below HR0_1.out (by repeat (first | (with_reducible first | exact HB.out | apply below_alloc | apply pw_below_drewN | apply below_drew1 | refine below_set ?_ GE224.out | refine below_set ?_ GE248.out) | exact HB.out))); (case side4 => exact HC0_1.out); (case side5 => exact Kd.C_below HR0_2.out (by repeat (first | (with_reducible first | exact HB.out | apply below_alloc | apply pw_below_drewN | apply below_drew1 | refine below_set ?_ GE224.out | refine below_set ?_ GE248.out) | exact HB.out))); (case side6 => exact HC0_2.out); rintro e w27 ⟨v250, v253, v256, rfl, ho0, ho1, ho2, hb⟩; refine ⟨_, rfl, ?_⟩; have n0_ := Aside0.mk (Kd.R_elder' (by (with_reducible repeat (first | apply Kd.R_alloc | apply Kd.R_drewN | apply Kd.R_drew)); exact (Kd.R_mono (Kd.R_far (p := ⟨gb248, 4, none⟩) (Kd.R_far (p := ⟨gb248, 3, none⟩) (Kd.R_far (p := ⟨gb248, 2, none⟩) (Kd.R_far (p := ⟨gb248, 1, none⟩) (Kd.R_far (p := ⟨gb248, 0, none⟩) (Kd.R_types HO239.out BK248.out (by decide)) (fun _ hk => hk.2) (.slice Ao21 t237.length co21)) (fun _ hk => hk.2) (.slice Ao24 t240.length co24)) (fun _ hk => hk.2) (.slice Ao25 t243.length co25)) (fun _ hk => hk.2) (.int .i64 t246)) (fun _ hk => hk.2) (.int .i64 t247)) (fun _ h_ => h_.1))) (Kd.R_base ho0) hb); have n1_ := Aside0.mk (Kd.R_mono (Kd.R_told (Kd.R_told (Kd.R_old (by (with_reducible repeat (first | apply Kd.R_alloc | apply Kd.R_drewN | apply Kd.R_drew)); exact (Kd.R_mono (Kd.R_far (p := ⟨gb248, 4, none⟩) (Kd.R_far (p := ⟨gb248, 3, none⟩) (Kd.R_far (p := ⟨gb248, 2, none⟩) (Kd.R_far (p := ⟨gb248, 1, none⟩) (Kd.R_far (p := ⟨gb248, 0, none⟩) (Kd.R_types HO242.out BK248.out (by decide)) (fun _ hk => hk.2) (.slice Ao21 t237.length co21)) (fun _ hk => hk.2) (.slice Ao24 t240.length co24)) (fun _ hk => hk.2) (.slice Ao25 t243.length co25)) (fun _ hk => hk.2) (.int .i64 t246)) (fun _ hk => hk.2) (.int .i64 t247)) (fun _ h_ => h_.1))) hb) (Kd.R_base ho1)) (Kd.R_base ho2)) (fun _ h_ => h_.1)); have n2_ := Aside0.mk (Kd.R_mono (Kd.R_told (Kd.R_told (Kd.R_old (by (with_reducible repeat (first | apply Kd.R_alloc | apply Kd.R_drewN | apply Kd.R_drew)); exact (Kd.R_mono (Kd.R_far (p := ⟨gb248, 4, none⟩) (Kd.R_far (p := ⟨gb248, 3, none⟩) (Kd.R_far (p := ⟨gb248, 2, none⟩) (Kd.R_far (p := ⟨gb248, 1, none⟩) (Kd.R_far (p := ⟨gb248, 0, none⟩) (Kd.R_types HO245.out BK248.out (by decide)) (fun _ hk => hk.2) (.slice Ao21 t237.length co21)) (fun _ hk => hk.2) (.slice Ao24 t240.length co24)) (fun _ hk => hk.2) (.slice Ao25 t243.length co25)) (fun _ hk => hk.2) (.int .i64 t246)) (fun _ hk => hk.2) (.int .i64 t247)) (fun _ h_ => h_.1))) hb) (Kd.R_base ho1)) (Kd.R_base ho2)) (fun _ h_ => h_.1)); have n3_ := Aside0.mk (Kd.R_lower (Kd.R_new' ho0 (Kd.R_lt (by (with_reducible repeat (first | apply Kd.R_alloc | apply Kd.R_drewN | apply Kd.R_drew)); exact (Kd.R_mono (Kd.R_far (p := ⟨gb248, 4, none⟩) (Kd.R_far (p := ⟨gb248, 3, none⟩) (Kd.R_far (p := ⟨gb248, 2, none⟩) (Kd.R_far (p := ⟨gb248, 1, none⟩) (Kd.R_far (p := ⟨gb248, 0, none⟩) (Kd.R_types HO239.out BK248.out (by decide)) (fun _ hk => hk.2) (.slice Ao21 t237.length co21)) (fun _ hk => hk.2) (.slice Ao24 t240.length co24)) (fun _ hk => hk.2) (.slice Ao25 t243.length co25)) (fun _ hk => hk.2) (.int .i64 t246)) (fun _ hk => hk.2) (.int .i64 t247)) (fun _ h_ => h_.1))))) (below_size (by repeat (first | (with_reducible first | exact HB.out | apply below_alloc | apply pw_below_drewN | apply below_drew1 | refine below_set ?_ GE224.out | refine below_set ?_ GE248.out) | exact HB.out)))); have n4_ := Aside0.mk (Kd.R_lower (Kd.R_new' (Kd.R_new' ho1 (Kd.R_lt (by (with_reducible repeat (first | apply Kd.R_alloc | apply Kd.R_drewN | apply Kd.R_drew)); exact (Kd.R_mono (Kd.R_far (p := ⟨gb248, 4, none⟩) (Kd.R_far (p := ⟨gb248, 3, none⟩) (Kd.R_far (p := ⟨gb248, 2, none⟩) (Kd.R_far (p := ⟨gb248, 1, none⟩) (Kd.R_far (p := ⟨gb248, 0, none⟩) (Kd.R_types HO242.out BK248.out (by decide)) (fun _ hk => hk.2) (.slice Ao21 t237.length co21)) (fun _ hk => hk.2) (.slice Ao24 t240.length co24)) (fun _ hk => hk.2) (.slice Ao25 t243.length co25)) (fun _ hk => hk.2) (.int .i64 t246)) (fun _ hk => hk.2) (.int .i64 t247)) (fun _ h_ => h_.1))))) (Kd.R_lt (by (with_reducible repeat (first | apply Kd.R_alloc | apply Kd.R_drewN | apply Kd.R_drew)); exact (Kd.R_mono (Kd.R_far (p := ⟨gb248, 4, none⟩) (Kd.R_far (p := ⟨gb248, 3, none⟩) (Kd.R_far (p := ⟨gb248, 2, none⟩) (Kd.R_far (p := ⟨gb248, 1, none⟩) (Kd.R_far (p := ⟨gb248, 0, none⟩) (Kd.R_types HO245.out BK248.out (by decide)) (fun _ hk => hk.2) (.slice Ao21 t237.length co21)) (fun _ hk => hk.2) (.slice Ao24 t240.length co24)) (fun _ hk => hk.2) (.slice Ao25 t243.length co25)) (fun _ hk => hk.2) (.int .i64 t246)) (fun _ hk => hk.2) (.int .i64 t247)) (fun _ h_ => h_.1))))) (below_size (by repeat (first | (with_reducible first | exact HB.out | apply below_alloc | apply pw_below_drewN | apply below_drew1 | refine below_set ?_ GE224.out | refine below_set ?_ GE248.out) | exact HB.out)))); have n5_ := Aside0.mk (Kd.R_lower (Kd.R_new' (Kd.R_new' ho2 (Kd.R_lt (by (with_reducible repeat (first | apply Kd.R_alloc | apply Kd.R_drewN | apply Kd.R_drew)); exact (Kd.R_mono (Kd.R_far (p := ⟨gb248, 4, none⟩) (Kd.R_far (p := ⟨gb248, 3, none⟩) (Kd.R_far (p := ⟨gb248, 2, none⟩) (Kd.R_far (p := ⟨gb248, 1, none⟩) (Kd.R_far (p := ⟨gb248, 0, none⟩) (Kd.R_types HO242.out BK248.out (by decide)) (fun _ hk => hk.2) (.slice Ao21 t237.length co21)) (fun _ hk => hk.2) (.slice Ao24 t240.length co24)) (fun _ hk => hk.2) (.slice Ao25 t243.length co25)) (fun _ hk => hk.2) (.int .i64 t246)) (fun _ hk => hk.2) (.int .i64 t247)) (fun _ h_ => h_.1))))) (Kd.R_lt (by (with_reducible repeat (first | apply Kd.R_alloc | apply Kd.R_drewN | apply Kd.R_drew)); exact (Kd.R_mono (Kd.R_far (p := ⟨gb248, 4, none⟩) (Kd.R_far (p := ⟨gb248, 3, none⟩) (Kd.R_far (p := ⟨gb248, 2, none⟩) (Kd.R_far (p := ⟨gb248, 1, none⟩) (Kd.R_far (p := ⟨gb248, 0, none⟩) (Kd.R_types HO245.out BK248.out (by decide)) (fun _ hk => hk.2) (.slice Ao21 t237.length co21)) (fun _ hk => hk.2) (.slice Ao24 t240.length co24)) (fun _ hk => hk.2) (.slice Ao25 t243.length co25)) (fun _ hk => hk.2) (.int .i64 t246)) (fun _ hk => hk.2) (.int .i64 t247)) (fun _ h_ => h_.1))))) (below_size (by repeat (first | (with_reducible first | exact HB.out | apply below_alloc | apply pw_below_drewN | apply below_drew1 | refine below_set ?_ GE224.out | refine below_set ?_ GE248.out) | exact HB.out)))); have n6_ := Aside0.mk (blk_below (g := gb224) (o := .cells #[.slice A0_0 l0_0.length c0_0, .slice A0_1 l0_1.length c0_1, .slice A0_2 l0_2.length c0_2, .int .i64 a0_3, .int .i64 a0_4] 77 (0, 0)) (by (with_reducible repeat (first | refine blk_drewN ?_ _ | refine blk_drew ?_ | refine blk_alloc ?_ _)); refine blk_far ?_ NB224_248.out _; (with_reducible repeat (first | refine blk_drewN ?_ _ | refine blk_drew ?_ | refine blk_alloc ?_ _)); refine blk_far ?_ NB224_248.out _; (with_reducible repeat (first | refine blk_drewN ?_ _ | refine blk_drew ?_ | refine blk_alloc ?_ _)); refine blk_far ?_ NB224_248.out _; (with_reducible repeat (first | refine blk_drewN ?_ _ | refine blk_drew ?_ | refine blk_alloc ?_ _)); refine blk_far ?_ NB224_248.out _; (with_reducible repeat (first | refine blk_drewN ?_ _ | refine blk_drew ?_ | refine blk_alloc ?_ _)); refine blk_far ?_ NB224_248.out _; (with_reducible repeat (first | refine blk_drewN ?_ _ | refine blk_drew ?_ | refine blk_alloc ?_ _)); exact BK224.out) hb); have n7_ := Aside0.mk (blk_below (g := gb248) (o := .cells #[.slice Ao21 t237.length co21, .slice Ao24 t240.length co24, .slice Ao25 t243.length co25, .int .i64 t246, .int .i64 t247] 57 (0, 0)) (by (with_reducible repeat (first | refine blk_drewN ?_ _ | refine blk_drew ?_ | refine blk_alloc ?_ _)); refine blk_put (cs := #[.slice Ao21 t237.length co21, .slice Ao24 t240.length co24, .slice Ao25 t243.length co25, .int .i64 t246, .int .i64 0]) ?_ 4 _ rfl; (with_reducible repeat (first | refine blk_drewN ?_ _ | refine blk_drew ?_ | refine blk_alloc ?_ _)); refine blk_put (cs := #[.slice Ao21 t237.length co21, .slice Ao24 t240.length co24, .slice Ao25 t243.length co25, .int .i64 0, .int .i64 0]) ?_ 3 _ rfl; (with_reducible repeat (first | refine blk_drewN ?_ _ | refine blk_drew ?_ | refine blk_alloc ?_ _)); refine blk_put (cs := #[.slice Ao21 t237.length co21, .slice Ao24 t240.length co24, .slice none 0 0, .int .i64 0, .int .i64 0]) ?_ 2 _ rfl; (with_reducible repeat (first | refine blk_drewN ?_ _ | refine blk_drew ?_ | refine blk_alloc ?_ _)); refine blk_put (cs := #[.slice Ao21 t237.length co21, .slice none 0 0, .slice none 0 0, .int .i64 0, .int .i64 0]) ?_ 1 _ rfl; (with_reducible repeat (first | refine blk_drewN ?_ _ | refine blk_drew ?_ | refine blk_alloc ?_ _)); refine blk_put (cs := #[.slice none 0 0, .slice none 0 0, .slice none 0 0, .int .i64 0, .int .i64 0]) ?_ 0 _ rfl; (with_reducible repeat (first | refine blk_drewN ?_ _ | refine blk_drew ?_ | refine blk_alloc ?_ _)); exact BK248.out) hb); have n8_ := Aside0.mk (below_step (by repeat (first | (with_reducible first | exact HB.out | apply below_alloc | apply pw_below_drewN | apply below_drew1 | refine below_set ?_ GE224.out | refine below_set ?_ GE248.out) | exact HB.out)) hb); clear HO239; clear HO242; clear HO245; clear BK224; clear BK248; clear HB; have HO239 := n0_; have HO242 := n1_; have HO245 := n2_; have HO251 := n3_; have HO254 := n4_; have HO257 := n5_; have BK224 := n6_; have BK248 := n7_; have HB := n8_; clear n0_ n1_ n2_ n3_ n4_ n5_ n6_ n7_ n8_; (try clear hb); (try clear hb2); (try clear hk); (try clear hi); (try clear ho0); (try clear ho1); (try clear ho2)) | ((with_reducible refine gate_dst (N := 5) rfl ?_); refine box_event ?hg (N := 5) ?hd (cs := #[.slice none 0 0, .slice none 0 0, .slice none 0 0, .int .i64 0, .int .i64 0]) (t := 57) ?hr ?_; (case hd => rfl); (case hg => rfl); (case hr => first | (go_simp; done) | (go_simp; rfl)); intro gb260 hg w28 hbox hb; have n0_ := Aside0.mk (Kd.R_below (by (with_reducible repeat (first | apply Kd.R_alloc | apply Kd.R_drewN | apply Kd.R_drew)); exact HO239.out) hb); have n1_ := Aside0.mk (Kd.R_below (by (with_reducible repeat (first | apply Kd.R_alloc | apply Kd.R_drewN | apply Kd.R_drew)); exact HO242.out) hb); have n2_ := Aside0.mk (Kd.R_below (by (with_reducible repeat (first | apply Kd.R_alloc | apply Kd.R_drewN | apply Kd.R_drew)); exact HO245.out) hb); have n3_ := Aside0.mk (Kd.R_below (by (with_reducible repeat (first | apply Kd.R_alloc | apply Kd.R_drewN | apply Kd.R_drew)); exact HO251.out) hb); have n4_ := Aside0.mk (Kd.R_below (by (with_reducible repeat (first | apply Kd.R_alloc | apply Kd.R_drewN | apply Kd.R_drew)); exact HO254.out) hb); have n5_ := Aside0.mk (Kd.R_below (by (with_reducible repeat (first | apply Kd.R_alloc | apply Kd.R_drewN | apply Kd.R_drew)); exact HO257.out) hb); have n6_ := Aside0.mk (blk_below (g := gb224) (o := .cells #[.slice A0_0 l0_0.length c0_0, .slice A0_1 l0_1.length c0_1, .slice A0_2 l0_2.length c0_2, .int .i64 a0_3, .int .i64 a0_4] 77 (0, 0)) (by (with_reducible repeat (first | refine blk_drewN ?_ _ | refine blk_drew ?_ | refine blk_alloc ?_ _)); exact BK224.out) hb); have n7_ := Aside0.mk (blk_below (g := gb248) (o := .cells #[.slice Ao21 t237.length co21, .slice Ao24 t240.length co24, .slice Ao25 t243.length co25, .int .i64 t246, .int .i64 t247] 57 (0, 0)) (by (with_reducible repeat (first | refine blk_drewN ?_ _ | refine blk_drew ?_ | refine blk_alloc ?_ _)); exact BK248.out) hb); have n8_ := Aside0.mk (below_step (by repeat (first | (with_reducible first | exact HB.out | apply below_alloc | apply pw_below_drewN | apply below_drew1 | refine below_set ?_ GE224.out | refine below_set ?_ GE248.out) | exact HB.out)) hb); have n9_ := Aside0.mk (hbox); have n10_ := Aside0.mk ((by rw [hg]; exact (below_size (by repeat (first | (with_reducible first | exact HB.out | apply below_alloc | apply pw_below_drewN | apply below_drew1 | refine below_set ?_ GE224.out | refine below_set ?_ GE248.out) | exact HB.out))) : w.heap.size ≤ gb260)); have n11_ := Aside0.mk ((by rw [hg]; exact (below_size (by repeat (first | (with_reducible first | exact HB.out | apply below_alloc | apply pw_below_drewN | apply below_drew1 | refine below_set ?_ GE224.out | refine below_set ?_ GE248.out) | exact HB.out))) : w.heap.size ≤ gb260)); have n12_ := Aside0.mk ((by rw [hg]; exact Nat.ne_of_lt (blk_lt (g := gb224) (o := .cells #[.slice A0_0 l0_0.length c0_0, .slice A0_1 l0_1.length c0_1, .slice A0_2 l0_2.length c0_2, .int .i64 a0_3, .int .i64 a0_4] 77 (0, 0)) (by (with_reducible repeat (first | refine blk_drewN ?_ _ | refine blk_drew ?_ | refine blk_alloc ?_ _)); exact BK224.out)) : gb224 ≠ gb260)); have n13_ := Aside0.mk ((by rw [hg]; exact Nat.ne_of_gt (blk_lt (g := gb224) (o := .cells #[.slice A0_0 l0_0.length c0_0, .slice A0_1 l0_1.length c0_1, .slice A0_2 l0_2.length c0_2, .int .i64 a0_3, .int .i64 a0_4] 77 (0, 0)) (by (with_reducible repeat (first | refine blk_drewN ?_ _ | refine blk_drew ?_ | refine blk_alloc ?_ _)); exact BK224.out)) : gb260 ≠ gb224)); have n14_ := Aside0.mk ((by rw [hg]; exact Nat.ne_of_lt (blk_lt (g := gb248) (o := .cells #[.slice Ao21 t237.length co21, .slice Ao24 t240.length co24, .slice Ao25 t243.length co25, .int .i64 t246, .int .i64 t247] 57 (0, 0)) (by (with_reducible repeat (first | refine blk_drewN ?_ _ | refine blk_drew ?_ | refine blk_alloc ?_ _)); exact BK248.out)) : gb248 ≠ gb260)); have n15_ := Aside0.mk ((by rw [hg]; exact Nat.ne_of_gt (blk_lt (g := gb248) (o := .cells #[.slice Ao21 t237.length co21, .slice Ao24 t240.length co24, .slice Ao25 t243.length co25, .int .i64 t246, .int .i64 t247] 57 (0, 0)) (by (with_reducible repeat (first | refine blk_drewN ?_ _ | refine blk_drew ?_ | refine blk_alloc ?_ _)); exact BK248.out)) : gb260 ≠ gb248)); clear HO239; clear HO242; clear HO245; clear HO251; clear HO254; clear HO257; clear BK224; clear BK248; clear HB; have HO239 := n0_; have HO242 := n1_; have HO245 := n2_; have HO251 := n3_; have HO254 := n4_; have HO257 := n5_; have BK224 := n6_; have BK248 := n7_; have HB := n8_; have BK260 := n9_; have GW260 := n10_; have GE260 := n11_; have NB224_260 := n12_; have NB260_224 := n13_; have NB248_260 := n14_; have NB260_248 := n15_; clear n0_ n1_ n2_ n3_ n4_ n5_ n6_ n7_ n8_ n9_ n10_ n11_ n12_ n13_ n14_ n15_; clear hb hbox hg; obtain ⟨Ao29, co29, eo29⟩ := Kd.R_slice HO251.out; subst eo29; have hnb30 := NB260_224.out; have hnc30 := NB224_260.out; have hnb31 := NB260_248.out; have hnc31 := NB248_260.out; have hcz32_0 : w28.cell? ⟨gb260, 0, none⟩ = some (.slice none 0 0) := (blk_cell BK260.out 0).trans rfl; have hcz32_1 : w28.cell? ⟨gb260, 1, none⟩ = some (.slice none 0 0) := (blk_cell BK260.out 1).trans rfl; have hcz32_2 : w28.cell? ⟨gb260, 2, none⟩ = some (.slice none 0 0) := (blk_cell BK260.out 2).trans rfl; have hcz32_3 : w28.cell? ⟨gb260, 3, none⟩ = some (.int .i64 0) := (blk_cell BK260.out 3).trans rfl; have hcz32_4 : w28.cell? ⟨gb260, 4, none⟩ = some (.int .i64 0) := (blk_cell BK260.out 4).trans rfl; have hfz32_0 := blk_frozen BK260.out 0; have hfz32_1 := blk_frozen BK260.out 1; have hfz32_2 := blk_frozen BK260.out 2; have hfz32_3 := blk_frozen BK260.out 3; have hfz32_4 := blk_frozen BK260.out 4; obtain ⟨Ao33, co33, eo33⟩ := Kd.R_slice HO254.out; subst eo33; obtain ⟨Ao34, co34, eo34⟩ := Kd.R_slice HO257.out; subst eo34) | ((with_reducible refine gate_callee (f := 58) rfl ?_); refine goesL_ (some 22) rfl rfl Try.func58 (by kernel_rfl) rfl #[.agg #[.slice Ao29 t249.length co29, .slice Ao33 t252.length co33, .slice Ao34 t255.length co34, .int .i64 t258, .int .i64 t259]] rfl (by (try simp only [List.map_toArray, List.map_cons, List.map_nil]); first | done | rfl | (simp only [List.length_drop, List.length_take]; rfl)) ?_; (with_reducible refine (impl_Spend.calls _ _ t249 _ _ t252 _ _ t255 t258 t259 t261 t264 t267 t270 t271 _ ?side1 ?side2 ?side3 ?side4 ?side5 ?side6 A11.out).mono ?_); (case side1 => refine (Kd.R_reads' (e := 123) (base := w.heap.size) (ok := fun k_ => (True ∧ some k_ ≠ (.slice Ao21 t237.length co21 : Value).ownBlock)) (n := t249.length) (c := co29) ?_).2.2; exact (by (with_reducible repeat (first | apply Kd.R_alloc | apply Kd.R_drewN | apply Kd.R_drew)); exact (Kd.R_mono (Kd.R_far (p := ⟨gb260, 4, none⟩) (Kd.R_far (p := ⟨gb260, 3, none⟩) (Kd.R_far (p := ⟨gb260, 2, none⟩) (Kd.R_far (p := ⟨gb260, 1, none⟩) (Kd.R_far (p := ⟨gb260, 0, none⟩) (Kd.R_types HO251.out BK260.out (by decide)) (fun _ hk => hk.2) (.slice Ao29 t249.length co29)) (fun _ hk => hk.2) (.slice Ao33 t252.length co33)) (fun _ hk => hk.2) (.slice Ao34 t255.length co34)) (fun _ hk => hk.2) (.int .i64 t258)) (fun _ hk => hk.2) (.int .i64 t259)) (fun _ h_ => h_.1)))); (case side2 => exact (Kd.R_reads' HO251.out).2.1); (case side3 => refine (Kd.R_reads' (e := 3) (base := w.heap.size) (ok := fun k_ => ((some k_ ≠ (.slice Ao34 t255.length co34 : Value).ownBlock ∧ some k_ ≠ (.slice Ao24 t240.length co24 : Value).ownBlock) ∧ some k_ ≠ (.slice Ao25 t243.length co25 : Value).ownBlock)) (n := t252.length) (c := co33) ?_).2.2; exact (by (with_reducible repeat (first | apply Kd.R_alloc | apply Kd.R_drewN | apply Kd.R_drew)); exact (Kd.R_mono (Kd.R_far (p := ⟨gb260, 4, none⟩) (Kd.R_far (p := ⟨gb260, 3, none⟩) (Kd.R_far (p := ⟨gb260, 2, none⟩) (Kd.R_far (p := ⟨gb260, 1, none⟩) (Kd.R_far (p := ⟨gb260, 0, none⟩) (Kd.R_types HO254.out BK260.out (by decide)) (fun _ hk => hk.2) (.slice Ao29 t249.length co29)) (fun _ hk => hk.2) (.slice Ao33 t252.length co33)) (fun _ hk => hk.2) (.slice Ao34 t255.length co34)) (fun _ hk => hk.2) (.int .i64 t258)) (fun _ hk => hk.2) (.int .i64 t259)) (fun _ h_ => h_.1)))); (case side4 => exact (Kd.R_reads' HO254.out).2.1); (case side5 => refine (Kd.R_reads' (e := 3) (base := w.heap.size) (ok := fun k_ => ((some k_ ≠ (.slice Ao33 t252.length co33 : Value).ownBlock ∧ some k_ ≠ (.slice Ao24 t240.length co24 : Value).ownBlock) ∧ some k_ ≠ (.slice Ao25 t243.length co25 : Value).ownBlock)) (n := t255.length) (c := co34) ?_).2.2; exact (by (with_reducible repeat (first | apply Kd.R_alloc | apply Kd.R_drewN | apply Kd.R_drew)); exact (Kd.R_mono (Kd.R_far (p := ⟨gb260, 4, none⟩) (Kd.R_far (p := ⟨gb260, 3, none⟩) (Kd.R_far (p := ⟨gb260, 2, none⟩) (Kd.R_far (p := ⟨gb260, 1, none⟩) (Kd.R_far (p := ⟨gb260, 0, none⟩) (Kd.R_types HO257.out BK260.out (by decide)) (fun _ hk => hk.2) (.slice Ao29 t249.length co29)) (fun _ hk => hk.2) (.slice Ao33 t252.length co33)) (fun _ hk => hk.2) (.slice Ao34 t255.length co34)) (fun _ hk => hk.2) (.int .i64 t258)) (fun _ hk => hk.2) (.int .i64 t259)) (fun _ h_ => h_.1)))); (case side6 => exact (Kd.R_reads' HO257.out).2.1); rintro e w35 ⟨v262, v265, v268, rfl, ho0, ho1, ho2, hb⟩; refine ⟨_, rfl, ?_⟩; have n0_ := Aside0.mk (Kd.R_elder' (by (with_reducible repeat (first | apply Kd.R_alloc | apply Kd.R_drewN | apply Kd.R_drew)); exact (Kd.R_mono (Kd.R_far (p := ⟨gb260, 4, none⟩) (Kd.R_far (p := ⟨gb260, 3, none⟩) (Kd.R_far (p := ⟨gb260, 2, none⟩) (Kd.R_far (p := ⟨gb260, 1, none⟩) (Kd.R_far (p := ⟨gb260, 0, none⟩) (Kd.R_types HO239.out BK260.out (by decide)) (fun _ hk => hk.2) (.slice Ao29 t249.length co29)) (fun _ hk => hk.2) (.slice Ao33 t252.length co33)) (fun _ hk => hk.2) (.slice Ao34 t255.length co34)) (fun _ hk => hk.2) (.int .i64 t258)) (fun _ hk => hk.2) (.int .i64 t259)) (fun _ h_ => h_.1))) (Kd.R_base ho0) hb); have n1_ := Aside0.mk (Kd.R_mono (Kd.R_told (Kd.R_told (Kd.R_old (by (with_reducible repeat (first | apply Kd.R_alloc | apply Kd.R_drewN | apply Kd.R_drew)); exact (Kd.R_mono (Kd.R_far (p := ⟨gb260, 4, none⟩) (Kd.R_far (p := ⟨gb260, 3, none⟩) (Kd.R_far (p := ⟨gb260, 2, none⟩) (Kd.R_far (p := ⟨gb260, 1, none⟩) (Kd.R_far (p := ⟨gb260, 0, none⟩) (Kd.R_types HO242.out BK260.out (by decide)) (fun _ hk => hk.2) (.slice Ao29 t249.length co29)) (fun _ hk => hk.2) (.slice Ao33 t252.length co33)) (fun _ hk => hk.2) (.slice Ao34 t255.length co34)) (fun _ hk => hk.2) (.int .i64 t258)) (fun _ hk => hk.2) (.int .i64 t259)) (fun _ h_ => h_.1))) hb) (Kd.R_base ho1)) (Kd.R_base ho2)) (fun _ h_ => h_.1)); have n2_ := Aside0.mk (Kd.R_mono (Kd.R_told (Kd.R_told (Kd.R_old (by (with_reducible repeat (first | apply Kd.R_alloc | apply Kd.R_drewN | apply Kd.R_drew)); exact (Kd.R_mono (Kd.R_far (p := ⟨gb260, 4, none⟩) (Kd.R_far (p := ⟨gb260, 3, none⟩) (Kd.R_far (p := ⟨gb260, 2, none⟩) (Kd.R_far (p := ⟨gb260, 1, none⟩) (Kd.R_far (p := ⟨gb260, 0, none⟩) (Kd.R_types HO245.out BK260.out (by decide)) (fun _ hk => hk.2) (.slice Ao29 t249.length co29)) (fun _ hk => hk.2) (.slice Ao33 t252.length co33)) (fun _ hk => hk.2) (.slice Ao34 t255.length co34)) (fun _ hk => hk.2) (.int .i64 t258)) (fun _ hk => hk.2) (.int .i64 t259)) (fun _ h_ => h_.1))) hb) (Kd.R_base ho1)) (Kd.R_base ho2)) (fun _ h_ => h_.1)); have n3_ := Aside0.mk (Kd.R_elder' (by (with_reducible repeat (first | apply Kd.R_alloc | apply Kd.R_drewN | apply Kd.R_drew)); exact (Kd.R_mono (Kd.R_far (p := ⟨gb260, 4, none⟩) (Kd.R_far (p := ⟨gb260, 3, none⟩) (Kd.R_far (p := ⟨gb260, 2, none⟩) (Kd.R_far (p := ⟨gb260, 1, none⟩) (Kd.R_far (p := ⟨gb260, 0, none⟩) (Kd.R_types HO251.out BK260.out (by decide)) (fun _ hk => hk.2) (.slice Ao29 t249.length co29)) (fun _ hk => hk.2) (.slice Ao33 t252.length co33)) (fun _ hk => hk.2) (.slice Ao34 t255.length co34)) (fun _ hk => hk.2) (.int .i64 t258)) (fun _ hk => hk.2) (.int .i64 t259)) (fun _ h_ => h_.1))) (Kd.R_base ho0) hb); have n4_ := Aside0.mk (Kd.R_mono (Kd.R_told (Kd.R_told (Kd.R_old (by (with_reducible repeat (first | apply Kd.R_alloc | apply Kd.R_drewN | apply Kd.R_drew)); exact (Kd.R_mono (Kd.R_far (p := ⟨gb260, 4, none⟩) (Kd.R_far (p := ⟨gb260, 3, none⟩) (Kd.R_far (p := ⟨gb260, 2, none⟩) (Kd.R_far (p := ⟨gb260, 1, none⟩) (Kd.R_far (p := ⟨gb260, 0, none⟩) (Kd.R_types HO254.out BK260.out (by decide)) (fun _ hk => hk.2) (.slice Ao29 t249.length co29)) (fun _ hk => hk.2) (.slice Ao33 t252.length co33)) (fun _ hk => hk.2) (.slice Ao34 t255.length co34)) (fun _ hk => hk.2) (.int .i64 t258)) (fun _ hk => hk.2) (.int .i64 t259)) (fun _ h_ => h_.1))) hb) (Kd.R_base ho1)) (Kd.R_base ho2)) (fun _ h_ => h_.1)); have n5_ := Aside0.mk (Kd.R_mono (Kd.R_told (Kd.R_told (Kd.R_old (by (with_reducible repeat (first | apply Kd.R_alloc | apply Kd.R_drewN | apply Kd.R_drew)); exact (Kd.R_mono (Kd.R_far (p := ⟨gb260, 4, none⟩) (Kd.R_far (p := ⟨gb260, 3, none⟩) (Kd.R_far (p := ⟨gb260, 2, none⟩) (Kd.R_far (p := ⟨gb260, 1, none⟩) (Kd.R_far (p := ⟨gb260, 0, none⟩) (Kd.R_types HO257.out BK260.out (by decide)) (fun _ hk => hk.2) (.slice Ao29 t249.length co29)) (fun _ hk => hk.2) (.slice Ao33 t252.length co33)) (fun _ hk => hk.2) (.slice Ao34 t255.length co34)) (fun _ hk => hk.2) (.int .i64 t258)) (fun _ hk => hk.2) (.int .i64 t259)) (fun _ h_ => h_.1))) hb) (Kd.R_base ho1)) (Kd.R_base ho2)) (fun _ h_ => h_.1)); have n6_ := Aside0.mk (Kd.R_lower (Kd.R_new' (Kd.R_new' ho0 (Kd.R_lt (by (with_reducible repeat (first | apply Kd.R_alloc | apply Kd.R_drewN | apply Kd.R_drew)); exact (Kd.R_mono (Kd.R_far (p := ⟨gb260, 4, none⟩) (Kd.R_far (p := ⟨gb260, 3, none⟩) (Kd.R_far (p := ⟨gb260, 2, none⟩) (Kd.R_far (p := ⟨gb260, 1, none⟩) (Kd.R_far (p := ⟨gb260, 0, none⟩) (Kd.R_types HO239.out BK260.out (by decide)) (fun _ hk => hk.2) (.slice Ao29 t249.length co29)) (fun _ hk => hk.2) (.slice Ao33 t252.length co33)) (fun _ hk => hk.2) (.slice Ao34 t255.length co34)) (fun _ hk => hk.2) (.int .i64 t258)) (fun _ hk => hk.2) (.int .i64 t259)) (fun _ h_ => h_.1))))) (Kd.R_lt (by (with_reducible repeat (first | apply Kd.R_alloc | apply Kd.R_drewN | apply Kd.R_drew)); exact (Kd.R_mono (Kd.R_far (p := ⟨gb260, 4, none⟩) (Kd.R_far (p := ⟨gb260, 3, none⟩) (Kd.R_far (p := ⟨gb260, 2, none⟩) (Kd.R_far (p := ⟨gb260, 1, none⟩) (Kd.R_far (p := ⟨gb260, 0, none⟩) (Kd.R_types HO251.out BK260.out (by decide)) (fun _ hk => hk.2) (.slice Ao29 t249.length co29)) (fun _ hk => hk.2) (.slice Ao33 t252.length co33)) (fun _ hk => hk.2) (.slice Ao34 t255.length co34)) (fun _ hk => hk.2) (.int .i64 t258)) (fun _ hk => hk.2) (.int .i64 t259)) (fun _ h_ => h_.1))))) (below_size (by repeat (first | (with_reducible first | exact HB.out | apply below_alloc | apply pw_below_drewN | apply below_drew1 | refine below_set ?_ GE224.out | refine below_set ?_ GE248.out | refine below_set ?_ GE260.out) | exact HB.out)))); have n7_ := Aside0.mk (Kd.R_lower (Kd.R_new' (Kd.R_new' (Kd.R_new' (Kd.R_new' ho1 (Kd.R_lt (by (with_reducible repeat (first | apply Kd.R_alloc | apply Kd.R_drewN | apply Kd.R_drew)); exact (Kd.R_mono (Kd.R_far (p := ⟨gb260, 4, none⟩) (Kd.R_far (p := ⟨gb260, 3, none⟩) (Kd.R_far (p := ⟨gb260, 2, none⟩) (Kd.R_far (p := ⟨gb260, 1, none⟩) (Kd.R_far (p := ⟨gb260, 0, none⟩) (Kd.R_types HO242.out BK260.out (by decide)) (fun _ hk => hk.2) (.slice Ao29 t249.length co29)) (fun _ hk => hk.2) (.slice Ao33 t252.length co33)) (fun _ hk => hk.2) (.slice Ao34 t255.length co34)) (fun _ hk => hk.2) (.int .i64 t258)) (fun _ hk => hk.2) (.int .i64 t259)) (fun _ h_ => h_.1))))) (Kd.R_lt (by (with_reducible repeat (first | apply Kd.R_alloc | apply Kd.R_drewN | apply Kd.R_drew)); exact (Kd.R_mono (Kd.R_far (p := ⟨gb260, 4, none⟩) (Kd.R_far (p := ⟨gb260, 3, none⟩) (Kd.R_far (p := ⟨gb260, 2, none⟩) (Kd.R_far (p := ⟨gb260, 1, none⟩) (Kd.R_far (p := ⟨gb260, 0, none⟩) (Kd.R_types HO245.out BK260.out (by decide)) (fun _ hk => hk.2) (.slice Ao29 t249.length co29)) (fun _ hk => hk.2) (.slice Ao33 t252.length co33)) (fun _ hk => hk.2) (.slice Ao34 t255.length co34)) (fun _ hk => hk.2) (.int .i64 t258)) (fun _ hk => hk.2) (.int .i64 t259)) (fun _ h_ => h_.1))))) (Kd.R_lt (by (with_reducible repeat (first | apply Kd.R_alloc | apply Kd.R_drewN | apply Kd.R_drew)); exact (Kd.R_mono (Kd.R_far (p := ⟨gb260, 4, none⟩) (Kd.R_far (p := ⟨gb260, 3, none⟩) (Kd.R_far (p := ⟨gb260, 2, none⟩) (Kd.R_far (p := ⟨gb260, 1, none⟩) (Kd.R_far (p := ⟨gb260, 0, none⟩) (Kd.R_types HO254.out BK260.out (by decide)) (fun _ hk => hk.2) (.slice Ao29 t249.length co29)) (fun _ hk => hk.2) (.slice Ao33 t252.length co33)) (fun _ hk => hk.2) (.slice Ao34 t255.length co34)) (fun _ hk => hk.2) (.int .i64 t258)) (fun _ hk => hk.2) (.int .i64 t259)) (fun _ h_ => h_.1))))) (Kd.R_lt (by (with_reducible repeat (first | apply Kd.R_alloc | apply Kd.R_drewN | apply Kd.R_drew)); exact (Kd.R_mono (Kd.R_far (p := ⟨gb260, 4, none⟩) (Kd.R_far (p := ⟨gb260, 3, none⟩) (Kd.R_far (p := ⟨gb260, 2, none⟩) (Kd.R_far (p := ⟨gb260, 1, none⟩) (Kd.R_far (p := ⟨gb260, 0, none⟩) (Kd.R_types HO257.out BK260.out (by decide)) (fun _ hk => hk.2) (.slice Ao29 t249.length co29)) (fun _ hk => hk.2) (.slice Ao33 t252.length co33)) (fun _ hk => hk.2) (.slice Ao34 t255.length co34)) (fun _ hk => hk.2) (.int .i64 t258)) (fun _ hk => hk.2) (.int .i64 t259)) (fun _ h_ => h_.1))))) (below_size (by repeat (first | (with_reducible first | exact HB.out | apply below_alloc | apply pw_below_drewN | apply below_drew1 | refine below_set ?_ GE224.out | refine below_set ?_ GE248.out | refine below_set ?_ GE260.out) | exact HB.out)))); have n8_ := Aside0.mk (Kd.R_lower (Kd.R_new' (Kd.R_new' (Kd.R_new' (Kd.R_new' ho2 (Kd.R_lt (by (with_reducible repeat (first | apply Kd.R_alloc | apply Kd.R_drewN | apply Kd.R_drew)); exact (Kd.R_mono (Kd.R_far (p := ⟨gb260, 4, none⟩) (Kd.R_far (p := ⟨gb260, 3, none⟩) (Kd.R_far (p := ⟨gb260, 2, none⟩) (Kd.R_far (p := ⟨gb260, 1, none⟩) (Kd.R_far (p := ⟨gb260, 0, none⟩) (Kd.R_types HO242.out BK260.out (by decide)) (fun _ hk => hk.2) (.slice Ao29 t249.length co29)) (fun _ hk => hk.2) (.slice Ao33 t252.length co33)) (fun _ hk => hk.2) (.slice Ao34 t255.length co34)) (fun _ hk => hk.2) (.int .i64 t258)) (fun _ hk => hk.2) (.int .i64 t259)) (fun _ h_ => h_.1))))) (Kd.R_lt (by (with_reducible repeat (first | apply Kd.R_alloc | apply Kd.R_drewN | apply Kd.R_drew)); exact (Kd.R_mono (Kd.R_far (p := ⟨gb260, 4, none⟩) (Kd.R_far (p := ⟨gb260, 3, none⟩) (Kd.R_far (p := ⟨gb260, 2, none⟩) (Kd.R_far (p := ⟨gb260, 1, none⟩) (Kd.R_far (p := ⟨gb260, 0, none⟩) (Kd.R_types HO245.out BK260.out (by decide)) (fun _ hk => hk.2) (.slice Ao29 t249.length co29)) (fun _ hk => hk.2) (.slice Ao33 t252.length co33)) (fun _ hk => hk.2) (.slice Ao34 t255.length co34)) (fun _ hk => hk.2) (.int .i64 t258)) (fun _ hk => hk.2) (.int .i64 t259)) (fun _ h_ => h_.1))))) (Kd.R_lt (by (with_reducible repeat (first | apply Kd.R_alloc | apply Kd.R_drewN | apply Kd.R_drew)); exact (Kd.R_mono (Kd.R_far (p := ⟨gb260, 4, none⟩) (Kd.R_far (p := ⟨gb260, 3, none⟩) (Kd.R_far (p := ⟨gb260, 2, none⟩) (Kd.R_far (p := ⟨gb260, 1, none⟩) (Kd.R_far (p := ⟨gb260, 0, none⟩) (Kd.R_types HO254.out BK260.out (by decide)) (fun _ hk => hk.2) (.slice Ao29 t249.length co29)) (fun _ hk => hk.2) (.slice Ao33 t252.length co33)) (fun _ hk => hk.2) (.slice Ao34 t255.length co34)) (fun _ hk => hk.2) (.int .i64 t258)) (fun _ hk => hk.2) (.int .i64 t259)) (fun _ h_ => h_.1))))) (Kd.R_lt (by (with_reducible repeat (first | apply Kd.R_alloc | apply Kd.R_drewN | apply Kd.R_drew)); exact (Kd.R_mono (Kd.R_far (p := ⟨gb260, 4, none⟩) (Kd.R_far (p := ⟨gb260, 3, none⟩) (Kd.R_far (p := ⟨gb260, 2, none⟩) (Kd.R_far (p := ⟨gb260, 1, none⟩) (Kd.R_far (p := ⟨gb260, 0, none⟩) (Kd.R_types HO257.out BK260.out (by decide)) (fun _ hk => hk.2) (.slice Ao29 t249.length co29)) (fun _ hk => hk.2) (.slice Ao33 t252.length co33)) (fun _ hk => hk.2) (.slice Ao34 t255.length co34)) (fun _ hk => hk.2) (.int .i64 t258)) (fun _ hk => hk.2) (.int .i64 t259)) (fun _ h_ => h_.1))))) (below_size (by repeat (first | (with_reducible first | exact HB.out | apply below_alloc | apply pw_below_drewN | apply below_drew1 | refine below_set ?_ GE224.out | refine below_set ?_ GE248.out | refine below_set ?_ GE260.out) | exact HB.out)))); have n9_ := Aside0.mk (blk_below (g := gb224) (o := .cells #[.slice A0_0 l0_0.length c0_0, .slice A0_1 l0_1.length c0_1, .slice A0_2 l0_2.length c0_2, .int .i64 a0_3, .int .i64 a0_4] 77 (0, 0)) (by (with_reducible repeat (first | refine blk_drewN ?_ _ | refine blk_drew ?_ | refine blk_alloc ?_ _)); refine blk_far ?_ NB224_260.out _; (with_reducible repeat (first | refine blk_drewN ?_ _ | refine blk_drew ?_ | refine blk_alloc ?_ _)); refine blk_far ?_ NB224_260.out _; (with_reducible repeat (first | refine blk_drewN ?_ _ | refine blk_drew ?_ | refine blk_alloc ?_ _)); refine blk_far ?_ NB224_260.out _; (with_reducible repeat (first | refine blk_drewN ?_ _ | refine blk_drew ?_ | refine blk_alloc ?_ _)); refine blk_far ?_ NB224_260.out _; (with_reducible repeat (first | refine blk_drewN ?_ _ | refine blk_drew ?_ | refine blk_alloc ?_ _)); refine blk_far ?_ NB224_260.out _; (with_reducible repeat (first | refine blk_drewN ?_ _ | refine blk_drew ?_ | refine blk_alloc ?_ _)); exact BK224.out) hb); have n10_ := Aside0.mk (blk_below (g := gb248) (o := .cells #[.slice Ao21 t237.length co21, .slice Ao24 t240.length co24, .slice Ao25 t243.length co25, .int .i64 t246, .int .i64 t247] 57 (0, 0)) (by (with_reducible repeat (first | refine blk_drewN ?_ _ | refine blk_drew ?_ | refine blk_alloc ?_ _)); refine blk_far ?_ NB248_260.out _; (with_reducible repeat (first | refine blk_drewN ?_ _ | refine blk_drew ?_ | refine blk_alloc ?_ _)); refine blk_far ?_ NB248_260.out _; (with_reducible repeat (first | refine blk_drewN ?_ _ | refine blk_drew ?_ | refine blk_alloc ?_ _)); refine blk_far ?_ NB248_260.out _; (with_reducible repeat (first | refine blk_drewN ?_ _ | refine blk_drew ?_ | refine blk_alloc ?_ _)); refine blk_far ?_ NB248_260.out _; (with_reducible repeat (first | refine blk_drewN ?_ _ | refine blk_drew ?_ | refine blk_alloc ?_ _)); refine blk_far ?_ NB248_260.out _; (with_reducible repeat (first | refine blk_drewN ?_ _ | refine blk_drew ?_ | refine blk_alloc ?_ _)); exact BK248.out) hb); have n11_ := Aside0.mk (blk_below (g := gb260) (o := .cells #[.slice Ao29 t249.length co29, .slice Ao33 t252.length co33, .slice Ao34 t255.length co34, .int .i64 t258, .int .i64 t259] 57 (0, 0)) (by (with_reducible repeat (first | refine blk_drewN ?_ _ | refine blk_drew ?_ | refine blk_alloc ?_ _)); refine blk_put (cs := #[.slice Ao29 t249.length co29, .slice Ao33 t252.length co33, .slice Ao34 t255.length co34, .int .i64 t258, .int .i64 0]) ?_ 4 _ rfl; (with_reducible repeat (first | refine blk_drewN ?_ _ | refine blk_drew ?_ | refine blk_alloc ?_ _)); refine blk_put (cs := #[.slice Ao29 t249.length co29, .slice Ao33 t252.length co33, .slice Ao34 t255.length co34, .int .i64 0, .int .i64 0]) ?_ 3 _ rfl; (with_reducible repeat (first | refine blk_drewN ?_ _ | refine blk_drew ?_ | refine blk_alloc ?_ _)); refine blk_put (cs := #[.slice Ao29 t249.length co29, .slice Ao33 t252.length co33, .slice none 0 0, .int .i64 0, .int .i64 0]) ?_ 2 _ rfl; (with_reducible repeat (first | refine blk_drewN ?_ _ | refine blk_drew ?_ | refine blk_alloc ?_ _)); refine blk_put (cs := #[.slice Ao29 t249.length co29, .slice none 0 0, .slice none 0 0, .int .i64 0, .int .i64 0]) ?_ 1 _ rfl; (with_reducible repeat (first | refine blk_drewN ?_ _ | refine blk_drew ?_ | refine blk_alloc ?_ _)); refine blk_put (cs := #[.slice none 0 0, .slice none 0 0, .slice none 0 0, .int .i64 0, .int .i64 0]) ?_ 0 _ rfl; (with_reducible repeat (first | refine blk_drewN ?_ _ | refine blk_drew ?_ | refine blk_alloc ?_ _)); exact BK260.out) hb); have n12_ := Aside0.mk (below_step (by repeat (first | (with_reducible first | exact HB.out | apply below_alloc | apply pw_below_drewN | apply below_drew1 | refine below_set ?_ GE224.out | refine below_set ?_ GE248.out | refine below_set ?_ GE260.out) | exact HB.out)) hb); clear HO239; clear HO242; clear HO245; clear HO251; clear HO254; clear HO257; clear BK224; clear BK248; clear BK260; clear HB; have HO239 := n0_; have HO242 := n1_; have HO245 := n2_; have HO251 := n3_; have HO254 := n4_; have HO257 := n5_; have HO263 := n6_; have HO266 := n7_; have HO269 := n8_; have BK224 := n9_; have BK248 := n10_; have BK260 := n11_; have HB := n12_; clear n0_ n1_ n2_ n3_ n4_ n5_ n6_ n7_ n8_ n9_ n10_ n11_ n12_; (try clear hb); (try clear hb2); (try clear hk); (try clear hi); (try clear ho0); (try clear ho1); (try clear ho2)) | ((with_reducible refine gate_dst (N := 6) rfl ?_); refine box_event ?hg (N := 6) ?hd (cs := #[.slice none 0 0, .slice none 0 0, .slice none 0 0, .int .i64 0, .int .i64 0]) (t := 57) ?hr ?_; (case hd => rfl); (case hg => rfl); (case hr => first | (go_simp; done) | (go_simp; rfl)); intro gb272 hg w36 hbox hb; have n0_ := Aside0.mk (Kd.R_below (by (with_reducible repeat (first | apply Kd.R_alloc | apply Kd.R_drewN | apply Kd.R_drew)); exact HO239.out) hb); have n1_ := Aside0.mk (Kd.R_below (by (with_reducible repeat (first | apply Kd.R_alloc | apply Kd.R_drewN | apply Kd.R_drew)); exact HO242.out) hb); have n2_ := Aside0.mk (Kd.R_below (by (with_reducible repeat (first | apply Kd.R_alloc | apply Kd.R_drewN | apply Kd.R_drew)); exact HO245.out) hb); have n3_ := Aside0.mk (Kd.R_below (by (with_reducible repeat (first | apply Kd.R_alloc | apply Kd.R_drewN | apply Kd.R_drew)); exact HO251.out) hb); have n4_ := Aside0.mk (Kd.R_below (by (with_reducible repeat (first | apply Kd.R_alloc | apply Kd.R_drewN | apply Kd.R_drew)); exact HO254.out) hb); have n5_ := Aside0.mk (Kd.R_below (by (with_reducible repeat (first | apply Kd.R_alloc | apply Kd.R_drewN | apply Kd.R_drew)); exact HO257.out) hb); have n6_ := Aside0.mk (Kd.R_below (by (with_reducible repeat (first | apply Kd.R_alloc | apply Kd.R_drewN | apply Kd.R_drew)); exact HO263.out) hb); have n7_ := Aside0.mk (Kd.R_below (by (with_reducible repeat (first | apply Kd.R_alloc | apply Kd.R_drewN | apply Kd.R_drew)); exact HO266.out) hb); have n8_ := Aside0.mk (Kd.R_below (by (with_reducible repeat (first | apply Kd.R_alloc | apply Kd.R_drewN | apply Kd.R_drew)); exact HO269.out) hb); have n9_ := Aside0.mk (blk_below (g := gb224) (o := .cells #[.slice A0_0 l0_0.length c0_0, .slice A0_1 l0_1.length c0_1, .slice A0_2 l0_2.length c0_2, .int .i64 a0_3, .int .i64 a0_4] 77 (0, 0)) (by (with_reducible repeat (first | refine blk_drewN ?_ _ | refine blk_drew ?_ | refine blk_alloc ?_ _)); exact BK224.out) hb); have n10_ := Aside0.mk (blk_below (g := gb248) (o := .cells #[.slice Ao21 t237.length co21, .slice Ao24 t240.length co24, .slice Ao25 t243.length co25, .int .i64 t246, .int .i64 t247] 57 (0, 0)) (by (with_reducible repeat (first | refine blk_drewN ?_ _ | refine blk_drew ?_ | refine blk_alloc ?_ _)); exact BK248.out) hb); have n11_ := Aside0.mk (blk_below (g := gb260) (o := .cells #[.slice Ao29 t249.length co29, .slice Ao33 t252.length co33, .slice Ao34 t255.length co34, .int .i64 t258, .int .i64 t259] 57 (0, 0)) (by (with_reducible repeat (first | refine blk_drewN ?_ _ | refine blk_drew ?_ | refine blk_alloc ?_ _)); exact BK260.out) hb); have n12_ := Aside0.mk (below_step (by repeat (first | (with_reducible first | exact HB.out | apply below_alloc | apply pw_below_drewN | apply below_drew1 | refine below_set ?_ GE224.out | refine below_set ?_ GE248.out | refine below_set ?_ GE260.out) | exact HB.out)) hb); have n13_ := Aside0.mk (hbox); have n14_ := Aside0.mk ((by rw [hg]; exact (below_size (by repeat (first | (with_reducible first | exact HB.out | apply below_alloc | apply pw_below_drewN | apply below_drew1 | refine below_set ?_ GE224.out | refine below_set ?_ GE248.out | refine below_set ?_ GE260.out) | exact HB.out))) : w.heap.size ≤ gb272)); have n15_ := Aside0.mk ((by rw [hg]; exact (below_size (by repeat (first | (with_reducible first | exact HB.out | apply below_alloc | apply pw_below_drewN | apply below_drew1 | refine below_set ?_ GE224.out | refine below_set ?_ GE248.out | refine below_set ?_ GE260.out) | exact HB.out))) : w.heap.size ≤ gb272)); have n16_ := Aside0.mk ((by rw [hg]; exact Nat.ne_of_lt (blk_lt (g := gb224) (o := .cells #[.slice A0_0 l0_0.length c0_0, .slice A0_1 l0_1.length c0_1, .slice A0_2 l0_2.length c0_2, .int .i64 a0_3, .int .i64 a0_4] 77 (0, 0)) (by (with_reducible repeat (first | refine blk_drewN ?_ _ | refine blk_drew ?_ | refine blk_alloc ?_ _)); exact BK224.out)) : gb224 ≠ gb272)); have n17_ := Aside0.mk ((by rw [hg]; exact Nat.ne_of_gt (blk_lt (g := gb224) (o := .cells #[.slice A0_0 l0_0.length c0_0, .slice A0_1 l0_1.length c0_1, .slice A0_2 l0_2.length c0_2, .int .i64 a0_3, .int .i64 a0_4] 77 (0, 0)) (by (with_reducible repeat (first | refine blk_drewN ?_ _ | refine blk_drew ?_ | refine blk_alloc ?_ _)); exact BK224.out)) : gb272 ≠ gb224)); have n18_ := Aside0.mk ((by rw [hg]; exact Nat.ne_of_lt (blk_lt (g := gb248) (o := .cells #[.slice Ao21 t237.length co21, .slice Ao24 t240.length co24, .slice Ao25 t243.length co25, .int .i64 t246, .int .i64 t247] 57 (0, 0)) (by (with_reducible repeat (first | refine blk_drewN ?_ _ | refine blk_drew ?_ | refine blk_alloc ?_ _)); exact BK248.out)) : gb248 ≠ gb272)); have n19_ := Aside0.mk ((by rw [hg]; exact Nat.ne_of_gt (blk_lt (g := gb248) (o := .cells #[.slice Ao21 t237.length co21, .slice Ao24 t240.length co24, .slice Ao25 t243.length co25, .int .i64 t246, .int .i64 t247] 57 (0, 0)) (by (with_reducible repeat (first | refine blk_drewN ?_ _ | refine blk_drew ?_ | refine blk_alloc ?_ _)); exact BK248.out)) : gb272 ≠ gb248)); have n20_ := Aside0.mk ((by rw [hg]; exact Nat.ne_of_lt (blk_lt (g := gb260) (o := .cells #[.slice Ao29 t249.length co29, .slice Ao33 t252.length co33, .slice Ao34 t255.length co34, .int .i64 t258, .int .i64 t259] 57 (0, 0)) (by (with_reducible repeat (first | refine blk_drewN ?_ _ | refine blk_drew ?_ | refine blk_alloc ?_ _)); exact BK260.out)) : gb260 ≠ gb272)); have n21_ := Aside0.mk ((by rw [hg]; exact Nat.ne_of_gt (blk_lt (g := gb260) (o := .cells #[.slice Ao29 t249.length co29, .slice Ao33 t252.length co33, .slice Ao34 t255.length co34, .int .i64 t258, .int .i64 t259] 57 (0, 0)) (by (with_reducible repeat (first | refine blk_drewN ?_ _ | refine blk_drew ?_ | refine blk_alloc ?_ _)); exact BK260.out)) : gb272 ≠ gb260)); clear HO239; clear HO242; clear HO245; clear HO251; clear HO254; clear HO257; clear HO263; clear HO266; clear HO269; clear BK224; clear BK248; clear BK260; clear HB; have HO239 := n0_; have HO242 := n1_; have HO245 := n2_; have HO251 := n3_; have HO254 := n4_; have HO257 := n5_; have HO263 := n6_; have HO266 := n7_; have HO269 := n8_; have BK224 := n9_; have BK248 := n10_; have BK260 := n11_; have HB := n12_; have BK272 := n13_; have GW272 := n14_; have GE272 := n15_; have NB224_272 := n16_; have NB272_224 := n17_; have NB248_272 := n18_; have NB272_248 := n19_; have NB260_272 := n20_; have NB272_260 := n21_; clear n0_ n1_ n2_ n3_ n4_ n5_ n6_ n7_ n8_ n9_ n10_ n11_ n12_ n13_ n14_ n15_ n16_ n17_ n18_ n19_ n20_ n21_; clear hb hbox hg; obtain ⟨Ao37, co37, eo37⟩ := Kd.R_slice HO263.out; subst eo37; have hnb38 := NB272_224.out; have hnc38 := NB224_272.out; have hnb39 := NB272_248.out; have hnc39 := NB248_272.out; have hnb40 := NB272_260.out; have hnc40 := NB260_272.out; have hcz41_0 : w36.cell? ⟨gb272, 0, none⟩ = some (.slice none 0 0) := (blk_cell BK272.out 0).trans rfl; have hcz41_1 : w36.cell? ⟨gb272, 1, none⟩ = some (.slice none 0 0) := (blk_cell BK272.out 1).trans rfl; have hcz41_2 : w36.cell? ⟨gb272, 2, none⟩ = some (.slice none 0 0) := (blk_cell BK272.out 2).trans rfl; have hcz41_3 : w36.cell? ⟨gb272, 3, none⟩ = some (.int .i64 0) := (blk_cell BK272.out 3).trans rfl; have hcz41_4 : w36.cell? ⟨gb272, 4, none⟩ = some (.int .i64 0) := (blk_cell BK272.out 4).trans rfl; have hfz41_0 := blk_frozen BK272.out 0; have hfz41_1 := blk_frozen BK272.out 1; have hfz41_2 := blk_frozen BK272.out 2; have hfz41_3 := blk_frozen BK272.out 3; have hfz41_4 := blk_frozen BK272.out 4; obtain ⟨Ao42, co42, eo42⟩ := Kd.R_slice HO266.out; subst eo42; obtain ⟨Ao43, co43, eo43⟩ := Kd.R_slice HO269.out; subst eo43; have hcz44_0 : w36.cell? ⟨gb248, 0, none⟩ = some (.slice Ao21 t237.length co21) := (blk_cell BK248.out 0).trans rfl; have hcz44_1 : w36.cell? ⟨gb248, 1, none⟩ = some (.slice Ao24 t240.length co24) := (blk_cell BK248.out 1).trans rfl; have hcz44_2 : w36.cell? ⟨gb248, 2, none⟩ = some (.slice Ao25 t243.length co25) := (blk_cell BK248.out 2).trans rfl; have hcz44_3 : w36.cell? ⟨gb248, 3, none⟩ = some (.int .i64 t246) := (blk_cell BK248.out 3).trans rfl; have hcz44_4 : w36.cell? ⟨gb248, 4, none⟩ = some (.int .i64 t247) := (blk_cell BK248.out 4).trans rfl; have hfz44_0 := blk_frozen BK248.out 0; have hfz44_1 := blk_frozen BK248.out 1; have hfz44_2 := blk_frozen BK248.out 2; have hfz44_3 := blk_frozen BK248.out 3; have hfz44_4 := blk_frozen BK248.out 4) | ((with_reducible refine gate_callee (f := 40) rfl ?_); refine goesL_ (some 25) rfl rfl Try.func40 (by kernel_rfl) rfl #[.agg #[.slice Ao37 t261.length co37, .slice Ao42 t264.length co42, .slice Ao43 t267.length co43, .int .i64 t270, .int .i64 t271], .agg #[.slice Ao21 t237.length co21, .slice Ao24 t240.length co24, .slice Ao25 t243.length co25, .int .i64 t246, .int .i64 t247]] rfl (by (try simp only [List.map_toArray, List.map_cons, List.map_nil]); first | done | rfl | (simp only [List.length_drop, List.length_take]; rfl)) ?_; (with_reducible refine (laws_eqMemory.calls kj2 _ _ t261 _ _ t264 _ _ t267 t270 t271 _ _ t237 _ _ t240 _ _ t243 t246 t247 t273 _ ?side1 ?side2 ?side3 ?side4 ?side5 ?side6 ?side7 ?side8 ?side9 ?side10 ?side11 ?side12 A12.out).mono ?_); (case side1 => refine (Kd.R_reads' (e := 123) (base := w.heap.size) (ok := fun k_ => ((True ∧ some k_ ≠ (.slice Ao21 t237.length co21 : Value).ownBlock) ∧ some k_ ≠ (.slice Ao29 t249.length co29 : Value).ownBlock)) (n := t261.length) (c := co37) ?_).2.2; exact (by (with_reducible repeat (first | apply Kd.R_alloc | apply Kd.R_drewN | apply Kd.R_drew)); exact (Kd.R_mono (Kd.R_far (p := ⟨gb272, 4, none⟩) (Kd.R_far (p := ⟨gb272, 3, none⟩) (Kd.R_far (p := ⟨gb272, 2, none⟩) (Kd.R_far (p := ⟨gb272, 1, none⟩) (Kd.R_far (p := ⟨gb272, 0, none⟩) (Kd.R_types HO263.out BK272.out (by decide)) (fun _ hk => hk.2) (.slice Ao37 t261.length co37)) (fun _ hk => hk.2) (.slice Ao42 t264.length co42)) (fun _ hk => hk.2) (.slice Ao43 t267.length co43)) (fun _ hk => hk.2) (.int .i64 t270)) (fun _ hk => hk.2) (.int .i64 t271)) (fun _ h_ => h_.1)))); (case side2 => exact (Kd.R_reads' HO263.out).2.1); (case side3 => refine (Kd.R_reads' (e := 3) (base := w.heap.size) (ok := fun k_ => ((((some k_ ≠ (.slice Ao43 t267.length co43 : Value).ownBlock ∧ some k_ ≠ (.slice Ao24 t240.length co24 : Value).ownBlock) ∧ some k_ ≠ (.slice Ao25 t243.length co25 : Value).ownBlock) ∧ some k_ ≠ (.slice Ao33 t252.length co33 : Value).ownBlock) ∧ some k_ ≠ (.slice Ao34 t255.length co34 : Value).ownBlock)) (n := t264.length) (c := co42) ?_).2.2; exact (by (with_reducible repeat (first | apply Kd.R_alloc | apply Kd.R_drewN | apply Kd.R_drew)); exact (Kd.R_mono (Kd.R_far (p := ⟨gb272, 4, none⟩) (Kd.R_far (p := ⟨gb272, 3, none⟩) (Kd.R_far (p := ⟨gb272, 2, none⟩) (Kd.R_far (p := ⟨gb272, 1, none⟩) (Kd.R_far (p := ⟨gb272, 0, none⟩) (Kd.R_types HO266.out BK272.out (by decide)) (fun _ hk => hk.2) (.slice Ao37 t261.length co37)) (fun _ hk => hk.2) (.slice Ao42 t264.length co42)) (fun _ hk => hk.2) (.slice Ao43 t267.length co43)) (fun _ hk => hk.2) (.int .i64 t270)) (fun _ hk => hk.2) (.int .i64 t271)) (fun _ h_ => h_.1)))); (case side4 => exact (Kd.R_reads' HO266.out).2.1); (case side5 => refine (Kd.R_reads' (e := 3) (base := w.heap.size) (ok := fun k_ => ((((some k_ ≠ (.slice Ao42 t264.length co42 : Value).ownBlock ∧ some k_ ≠ (.slice Ao24 t240.length co24 : Value).ownBlock) ∧ some k_ ≠ (.slice Ao25 t243.length co25 : Value).ownBlock) ∧ some k_ ≠ (.slice Ao33 t252.length co33 : Value).ownBlock) ∧ some k_ ≠ (.slice Ao34 t255.length co34 : Value).ownBlock)) (n := t267.length) (c := co43) ?_).2.2; exact (by (with_reducible repeat (first | apply Kd.R_alloc | apply Kd.R_drewN | apply Kd.R_drew)); exact (Kd.R_mono (Kd.R_far (p := ⟨gb272, 4, none⟩) (Kd.R_far (p := ⟨gb272, 3, none⟩) (Kd.R_far (p := ⟨gb272, 2, none⟩) (Kd.R_far (p := ⟨gb272, 1, none⟩) (Kd.R_far (p := ⟨gb272, 0, none⟩) (Kd.R_types HO269.out BK272.out (by decide)) (fun _ hk => hk.2) (.slice Ao37 t261.length co37)) (fun _ hk => hk.2) (.slice Ao42 t264.length co42)) (fun _ hk => hk.2) (.slice Ao43 t267.length co43)) (fun _ hk => hk.2) (.int .i64 t270)) (fun _ hk => hk.2) (.int .i64 t271)) (fun _ h_ => h_.1)))); (case side6 => exact (Kd.R_reads' HO269.out).2.1); (case side7 => refine (Kd.R_reads' (e := 123) (base := w.heap.size) (ok := fun k_ => (((True ∧ some k_ ≠ (.slice Ao16 t226.length co16 : Value).ownBlock) ∧ some k_ ≠ (.slice Ao29 t249.length co29 : Value).ownBlock) ∧ some k_ ≠ (.slice Ao37 t261.length co37 : Value).ownBlock)) (n := t237.length) (c := co21) ?_).2.2; exact (by (with_reducible repeat (first | apply Kd.R_alloc | apply Kd.R_drewN | apply Kd.R_drew)); exact (Kd.R_mono (Kd.R_far (p := ⟨gb272, 4, none⟩) (Kd.R_far (p := ⟨gb272, 3, none⟩) (Kd.R_far (p := ⟨gb272, 2, none⟩) (Kd.R_far (p := ⟨gb272, 1, none⟩) (Kd.R_far (p := ⟨gb272, 0, none⟩) (Kd.R_types HO239.out BK272.out (by decide)) (fun _ hk => hk.2) (.slice Ao37 t261.length co37)) (fun _ hk => hk.2) (.slice Ao42 t264.length co42)) (fun _ hk => hk.2) (.slice Ao43 t267.length co43)) (fun _ hk => hk.2) (.int .i64 t270)) (fun _ hk => hk.2) (.int .i64 t271)) (fun _ h_ => h_.1)))); (case side8 => exact (Kd.R_reads' HO239.out).2.1); (case side9 => refine (Kd.R_reads' (e := 3) (base := w.heap.size) (ok := fun k_ => ((((((some k_ ≠ (.slice Ao25 t243.length co25 : Value).ownBlock ∧ some k_ ≠ (.slice Ao17 t229.length co17 : Value).ownBlock) ∧ some k_ ≠ (.slice Ao18 t232.length co18 : Value).ownBlock) ∧ some k_ ≠ (.slice Ao33 t252.length co33 : Value).ownBlock) ∧ some k_ ≠ (.slice Ao34 t255.length co34 : Value).ownBlock) ∧ some k_ ≠ (.slice Ao42 t264.length co42 : Value).ownBlock) ∧ some k_ ≠ (.slice Ao43 t267.length co43 : Value).ownBlock)) (n := t240.length) (c := co24) ?_).2.2; exact (by (with_reducible repeat (first | apply Kd.R_alloc | apply Kd.R_drewN | apply Kd.R_drew)); exact (Kd.R_mono (Kd.R_far (p := ⟨gb272, 4, none⟩) (Kd.R_far (p := ⟨gb272, 3, none⟩) (Kd.R_far (p := ⟨gb272, 2, none⟩) (Kd.R_far (p := ⟨gb272, 1, none⟩) (Kd.R_far (p := ⟨gb272, 0, none⟩) (Kd.R_types HO242.out BK272.out (by decide)) (fun _ hk => hk.2) (.slice Ao37 t261.length co37)) (fun _ hk => hk.2) (.slice Ao42 t264.length co42)) (fun _ hk => hk.2) (.slice Ao43 t267.length co43)) (fun _ hk => hk.2) (.int .i64 t270)) (fun _ hk => hk.2) (.int .i64 t271)) (fun _ h_ => h_.1)))); (case side10 => exact (Kd.R_reads' HO242.out).2.1); (case side11 => refine (Kd.R_reads' (e := 3) (base := w.heap.size) (ok := fun k_ => ((((((some k_ ≠ (.slice Ao24 t240.length co24 : Value).ownBlock ∧ some k_ ≠ (.slice Ao17 t229.length co17 : Value).ownBlock) ∧ some k_ ≠ (.slice Ao18 t232.length co18 : Value).ownBlock) ∧ some k_ ≠ (.slice Ao33 t252.length co33 : Value).ownBlock) ∧ some k_ ≠ (.slice Ao34 t255.length co34 : Value).ownBlock) ∧ some k_ ≠ (.slice Ao42 t264.length co42 : Value).ownBlock) ∧ some k_ ≠ (.slice Ao43 t267.length co43 : Value).ownBlock)) (n := t243.length) (c := co25) ?_).2.2; exact (by (with_reducible repeat (first | apply Kd.R_alloc | apply Kd.R_drewN | apply Kd.R_drew)); exact (Kd.R_mono (Kd.R_far (p := ⟨gb272, 4, none⟩) (Kd.R_far (p := ⟨gb272, 3, none⟩) (Kd.R_far (p := ⟨gb272, 2, none⟩) (Kd.R_far (p := ⟨gb272, 1, none⟩) (Kd.R_far (p := ⟨gb272, 0, none⟩) (Kd.R_types HO245.out BK272.out (by decide)) (fun _ hk => hk.2) (.slice Ao37 t261.length co37)) (fun _ hk => hk.2) (.slice Ao42 t264.length co42)) (fun _ hk => hk.2) (.slice Ao43 t267.length co43)) (fun _ hk => hk.2) (.int .i64 t270)) (fun _ hk => hk.2) (.int .i64 t271)) (fun _ h_ => h_.1)))); (case side12 => exact (Kd.R_reads' HO245.out).2.1); rintro e w45 ⟨rfl, hb⟩; refine ⟨_, rfl, ?_⟩; have n0_ := Aside0.mk (Kd.R_below (by (with_reducible repeat (first | apply Kd.R_alloc | apply Kd.R_drewN | apply Kd.R_drew)); exact (Kd.R_mono (Kd.R_far (p := ⟨gb272, 4, none⟩) (Kd.R_far (p := ⟨gb272, 3, none⟩) (Kd.R_far (p := ⟨gb272, 2, none⟩) (Kd.R_far (p := ⟨gb272, 1, none⟩) (Kd.R_far (p := ⟨gb272, 0, none⟩) (Kd.R_types HO239.out BK272.out (by decide)) (fun _ hk => hk.2) (.slice Ao37 t261.length co37)) (fun _ hk => hk.2) (.slice Ao42 t264.length co42)) (fun _ hk => hk.2) (.slice Ao43 t267.length co43)) (fun _ hk => hk.2) (.int .i64 t270)) (fun _ hk => hk.2) (.int .i64 t271)) (fun _ h_ => h_.1))) hb); have n1_ := Aside0.mk (Kd.R_below (by (with_reducible repeat (first | apply Kd.R_alloc | apply Kd.R_drewN | apply Kd.R_drew)); exact (Kd.R_mono (Kd.R_far (p := ⟨gb272, 4, none⟩) (Kd.R_far (p := ⟨gb272, 3, none⟩) (Kd.R_far (p := ⟨gb272, 2, none⟩) (Kd.R_far (p := ⟨gb272, 1, none⟩) (Kd.R_far (p := ⟨gb272, 0, none⟩) (Kd.R_types HO242.out BK272.out (by decide)) (fun _ hk => hk.2) (.slice Ao37 t261.length co37)) (fun _ hk => hk.2) (.slice Ao42 t264.length co42)) (fun _ hk => hk.2) (.slice Ao43 t267.length co43)) (fun _ hk => hk.2) (.int .i64 t270)) (fun _ hk => hk.2) (.int .i64 t271)) (fun _ h_ => h_.1))) hb); have n2_ := Aside0.mk (Kd.R_below (by (with_reducible repeat (first | apply Kd.R_alloc | apply Kd.R_drewN | apply Kd.R_drew)); exact (Kd.R_mono (Kd.R_far (p := ⟨gb272, 4, none⟩) (Kd.R_far (p := ⟨gb272, 3, none⟩) (Kd.R_far (p := ⟨gb272, 2, none⟩) (Kd.R_far (p := ⟨gb272, 1, none⟩) (Kd.R_far (p := ⟨gb272, 0, none⟩) (Kd.R_types HO245.out BK272.out (by decide)) (fun _ hk => hk.2) (.slice Ao37 t261.length co37)) (fun _ hk => hk.2) (.slice Ao42 t264.length co42)) (fun _ hk => hk.2) (.slice Ao43 t267.length co43)) (fun _ hk => hk.2) (.int .i64 t270)) (fun _ hk => hk.2) (.int .i64 t271)) (fun _ h_ => h_.1))) hb); have n3_ := Aside0.mk (Kd.R_below (by (with_reducible repeat (first | apply Kd.R_alloc | apply Kd.R_drewN | apply Kd.R_drew)); exact (Kd.R_mono (Kd.R_far (p := ⟨gb272, 4, none⟩) (Kd.R_far (p := ⟨gb272, 3, none⟩) (Kd.R_far (p := ⟨gb272, 2, none⟩) (Kd.R_far (p := ⟨gb272, 1, none⟩) (Kd.R_far (p := ⟨gb272, 0, none⟩) (Kd.R_types HO251.out BK272.out (by decide)) (fun _ hk => hk.2) (.slice Ao37 t261.length co37)) (fun _ hk => hk.2) (.slice Ao42 t264.length co42)) (fun _ hk => hk.2) (.slice Ao43 t267.length co43)) (fun _ hk => hk.2) (.int .i64 t270)) (fun _ hk => hk.2) (.int .i64 t271)) (fun _ h_ => h_.1))) hb); have n4_ := Aside0.mk (Kd.R_below (by (with_reducible repeat (first | apply Kd.R_alloc | apply Kd.R_drewN | apply Kd.R_drew)); exact (Kd.R_mono (Kd.R_far (p := ⟨gb272, 4, none⟩) (Kd.R_far (p := ⟨gb272, 3, none⟩) (Kd.R_far (p := ⟨gb272, 2, none⟩) (Kd.R_far (p := ⟨gb272, 1, none⟩) (Kd.R_far (p := ⟨gb272, 0, none⟩) (Kd.R_types HO254.out BK272.out (by decide)) (fun _ hk => hk.2) (.slice Ao37 t261.length co37)) (fun _ hk => hk.2) (.slice Ao42 t264.length co42)) (fun _ hk => hk.2) (.slice Ao43 t267.length co43)) (fun _ hk => hk.2) (.int .i64 t270)) (fun _ hk => hk.2) (.int .i64 t271)) (fun _ h_ => h_.1))) hb); have n5_ := Aside0.mk (Kd.R_below (by (with_reducible repeat (first | apply Kd.R_alloc | apply Kd.R_drewN | apply Kd.R_drew)); exact (Kd.R_mono (Kd.R_far (p := ⟨gb272, 4, none⟩) (Kd.R_far (p := ⟨gb272, 3, none⟩) (Kd.R_far (p := ⟨gb272, 2, none⟩) (Kd.R_far (p := ⟨gb272, 1, none⟩) (Kd.R_far (p := ⟨gb272, 0, none⟩) (Kd.R_types HO257.out BK272.out (by decide)) (fun _ hk => hk.2) (.slice Ao37 t261.length co37)) (fun _ hk => hk.2) (.slice Ao42 t264.length co42)) (fun _ hk => hk.2) (.slice Ao43 t267.length co43)) (fun _ hk => hk.2) (.int .i64 t270)) (fun _ hk => hk.2) (.int .i64 t271)) (fun _ h_ => h_.1))) hb); have n6_ := Aside0.mk (Kd.R_below (by (with_reducible repeat (first | apply Kd.R_alloc | apply Kd.R_drewN | apply Kd.R_drew)); exact (Kd.R_mono (Kd.R_far (p := ⟨gb272, 4, none⟩) (Kd.R_far (p := ⟨gb272, 3, none⟩) (Kd.R_far (p := ⟨gb272, 2, none⟩) (Kd.R_far (p := ⟨gb272, 1, none⟩) (Kd.R_far (p := ⟨gb272, 0, none⟩) (Kd.R_types HO263.out BK272.out (by decide)) (fun _ hk => hk.2) (.slice Ao37 t261.length co37)) (fun _ hk => hk.2) (.slice Ao42 t264.length co42)) (fun _ hk => hk.2) (.slice Ao43 t267.length co43)) (fun _ hk => hk.2) (.int .i64 t270)) (fun _ hk => hk.2) (.int .i64 t271)) (fun _ h_ => h_.1))) hb); have n7_ := Aside0.mk (Kd.R_below (by (with_reducible repeat (first | apply Kd.R_alloc | apply Kd.R_drewN | apply Kd.R_drew)); exact (Kd.R_mono (Kd.R_far (p := ⟨gb272, 4, none⟩) (Kd.R_far (p := ⟨gb272, 3, none⟩) (Kd.R_far (p := ⟨gb272, 2, none⟩) (Kd.R_far (p := ⟨gb272, 1, none⟩) (Kd.R_far (p := ⟨gb272, 0, none⟩) (Kd.R_types HO266.out BK272.out (by decide)) (fun _ hk => hk.2) (.slice Ao37 t261.length co37)) (fun _ hk => hk.2) (.slice Ao42 t264.length co42)) (fun _ hk => hk.2) (.slice Ao43 t267.length co43)) (fun _ hk => hk.2) (.int .i64 t270)) (fun _ hk => hk.2) (.int .i64 t271)) (fun _ h_ => h_.1))) hb); have n8_ := Aside0.mk (Kd.R_below (by (with_reducible repeat (first | apply Kd.R_alloc | apply Kd.R_drewN | apply Kd.R_drew)); exact (Kd.R_mono (Kd.R_far (p := ⟨gb272, 4, none⟩) (Kd.R_far (p := ⟨gb272, 3, none⟩) (Kd.R_far (p := ⟨gb272, 2, none⟩) (Kd.R_far (p := ⟨gb272, 1, none⟩) (Kd.R_far (p := ⟨gb272, 0, none⟩) (Kd.R_types HO269.out BK272.out (by decide)) (fun _ hk => hk.2) (.slice Ao37 t261.length co37)) (fun _ hk => hk.2) (.slice Ao42 t264.length co42)) (fun _ hk => hk.2) (.slice Ao43 t267.length co43)) (fun _ hk => hk.2) (.int .i64 t270)) (fun _ hk => hk.2) (.int .i64 t271)) (fun _ h_ => h_.1))) hb); have n9_ := Aside0.mk (blk_below (g := gb224) (o := .cells #[.slice A0_0 l0_0.length c0_0, .slice A0_1 l0_1.length c0_1, .slice A0_2 l0_2.length c0_2, .int .i64 a0_3, .int .i64 a0_4] 77 (0, 0)) (by (with_reducible repeat (first | refine blk_drewN ?_ _ | refine blk_drew ?_ | refine blk_alloc ?_ _)); refine blk_far ?_ NB224_272.out _; (with_reducible repeat (first | refine blk_drewN ?_ _ | refine blk_drew ?_ | refine blk_alloc ?_ _)); refine blk_far ?_ NB224_272.out _; (with_reducible repeat (first | refine blk_drewN ?_ _ | refine blk_drew ?_ | refine blk_alloc ?_ _)); refine blk_far ?_ NB224_272.out _; (with_reducible repeat (first | refine blk_drewN ?_ _ | refine blk_drew ?_ | refine blk_alloc ?_ _)); refine blk_far ?_ NB224_272.out _; (with_reducible repeat (first | refine blk_drewN ?_ _ | refine blk_drew ?_ | refine blk_alloc ?_ _)); refine blk_far ?_ NB224_272.out _; (with_reducible repeat (first | refine blk_drewN ?_ _ | refine blk_drew ?_ | refine blk_alloc ?_ _)); exact BK224.out) hb); have n10_ := Aside0.mk (blk_below (g := gb248) (o := .cells #[.slice Ao21 t237.length co21, .slice Ao24 t240.length co24, .slice Ao25 t243.length co25, .int .i64 t246, .int .i64 t247] 57 (0, 0)) (by (with_reducible repeat (first | refine blk_drewN ?_ _ | refine blk_drew ?_ | refine blk_alloc ?_ _)); refine blk_far ?_ NB248_272.out _; (with_reducible repeat (first | refine blk_drewN ?_ _ | refine blk_drew ?_ | refine blk_alloc ?_ _)); refine blk_far ?_ NB248_272.out _; (with_reducible repeat (first | refine blk_drewN ?_ _ | refine blk_drew ?_ | refine blk_alloc ?_ _)); refine blk_far ?_ NB248_272.out _; (with_reducible repeat (first | refine blk_drewN ?_ _ | refine blk_drew ?_ | refine blk_alloc ?_ _)); refine blk_far ?_ NB248_272.out _; (with_reducible repeat (first | refine blk_drewN ?_ _ | refine blk_drew ?_ | refine blk_alloc ?_ _)); refine blk_far ?_ NB248_272.out _; (with_reducible repeat (first | refine blk_drewN ?_ _ | refine blk_drew ?_ | refine blk_alloc ?_ _)); exact BK248.out) hb); have n11_ := Aside0.mk (blk_below (g := gb260) (o := .cells #[.slice Ao29 t249.length co29, .slice Ao33 t252.length co33, .slice Ao34 t255.length co34, .int .i64 t258, .int .i64 t259] 57 (0, 0)) (by (with_reducible repeat (first | refine blk_drewN ?_ _ | refine blk_drew ?_ | refine blk_alloc ?_ _)); refine blk_far ?_ NB260_272.out _; (with_reducible repeat (first | refine blk_drewN ?_ _ | refine blk_drew ?_ | refine blk_alloc ?_ _)); refine blk_far ?_ NB260_272.out _; (with_reducible repeat (first | refine blk_drewN ?_ _ | refine blk_drew ?_ | refine blk_alloc ?_ _)); refine blk_far ?_ NB260_272.out _; (with_reducible repeat (first | refine blk_drewN ?_ _ | refine blk_drew ?_ | refine blk_alloc ?_ _)); refine blk_far ?_ NB260_272.out _; (with_reducible repeat (first | refine blk_drewN ?_ _ | refine blk_drew ?_ | refine blk_alloc ?_ _)); refine blk_far ?_ NB260_272.out _; (with_reducible repeat (first | refine blk_drewN ?_ _ | refine blk_drew ?_ | refine blk_alloc ?_ _)); exact BK260.out) hb); have n12_ := Aside0.mk (blk_below (g := gb272) (o := .cells #[.slice Ao37 t261.length co37, .slice Ao42 t264.length co42, .slice Ao43 t267.length co43, .int .i64 t270, .int .i64 t271] 57 (0, 0)) (by (with_reducible repeat (first | refine blk_drewN ?_ _ | refine blk_drew ?_ | refine blk_alloc ?_ _)); refine blk_put (cs := #[.slice Ao37 t261.length co37, .slice Ao42 t264.length co42, .slice Ao43 t267.length co43, .int .i64 t270, .int .i64 0]) ?_ 4 _ rfl; (with_reducible repeat (first | refine blk_drewN ?_ _ | refine blk_drew ?_ | refine blk_alloc ?_ _)); refine blk_put (cs := #[.slice Ao37 t261.length co37, .slice Ao42 t264.length co42, .slice Ao43 t267.length co43, .int .i64 0, .int .i64 0]) ?_ 3 _ rfl; (with_reducible repeat (first | refine blk_drewN ?_ _ | refine blk_drew ?_ | refine blk_alloc ?_ _)); refine blk_put (cs := #[.slice Ao37 t261.length co37, .slice Ao42 t264.length co42, .slice none 0 0, .int .i64 0, .int .i64 0]) ?_ 2 _ rfl; (with_reducible repeat (first | refine blk_drewN ?_ _ | refine blk_drew ?_ | refine blk_alloc ?_ _)); refine blk_put (cs := #[.slice Ao37 t261.length co37, .slice none 0 0, .slice none 0 0, .int .i64 0, .int .i64 0]) ?_ 1 _ rfl; (with_reducible repeat (first | refine blk_drewN ?_ _ | refine blk_drew ?_ | refine blk_alloc ?_ _)); refine blk_put (cs := #[.slice none 0 0, .slice none 0 0, .slice none 0 0, .int .i64 0, .int .i64 0]) ?_ 0 _ rfl; (with_reducible repeat (first | refine blk_drewN ?_ _ | refine blk_drew ?_ | refine blk_alloc ?_ _)); exact BK272.out) hb); have n13_ := Aside0.mk (below_step (by repeat (first | (with_reducible first | exact HB.out | apply below_alloc | apply pw_below_drewN | apply below_drew1 | refine below_set ?_ GE224.out | refine below_set ?_ GE248.out | refine below_set ?_ GE260.out | refine below_set ?_ GE272.out) | exact HB.out)) hb); clear HO239; clear HO242; clear HO245; clear HO251; clear HO254; clear HO257; clear HO263; clear HO266; clear HO269; clear BK224; clear BK248; clear BK260; clear BK272; clear HB; have HO239 := n0_; have HO242 := n1_; have HO245 := n2_; have HO251 := n3_; have HO254 := n4_; have HO257 := n5_; have HO263 := n6_; have HO266 := n7_; have HO269 := n8_; have BK224 := n9_; have BK248 := n10_; have BK260 := n11_; have BK272 := n12_; have HB := n13_; clear n0_ n1_ n2_ n3_ n4_ n5_ n6_ n7_ n8_ n9_ n10_ n11_ n12_ n13_; (try clear hb); (try clear hb2); (try clear hk); (try clear hi)))
   (try simp only [Act.put, List.setIfInBounds_toArray, List.set_cons_zero, List.set_cons_succ])
   go_cut [] (fun wc => ∃ (kq : Nat), Aside0 (laws_FnExactSpend.j1 kq l0_0 l0_1 l0_2 a0_3 a0_4 t237 t240 t243 t246 t247 t249 t252 t255 t258 t259 t261 t264 t267 t270 t271 = some r) ∧ Aside0 (kq ≤ kj2) ∧ Aside0 (Kd.R k123 123 wc w.heap.size (fun k_ => some k_ ≠ ((.slice Ao29 t249.length co29) : Value).ownBlock ∧ some k_ ≠ ((.slice Ao37 t261.length co37) : Value).ownBlock) (.slice Ao21 t237.length co21) t237) ∧ Aside0 (Kd.R (Kd.int .i64) 3 wc w.heap.size (fun k_ => some k_ ≠ ((.slice Ao25 t243.length co25) : Value).ownBlock ∧ some k_ ≠ ((.slice Ao33 t252.length co33) : Value).ownBlock ∧ some k_ ≠ ((.slice Ao34 t255.length co34) : Value).ownBlock ∧ some k_ ≠ ((.slice Ao42 t264.length co42) : Value).ownBlock ∧ some k_ ≠ ((.slice Ao43 t267.length co43) : Value).ownBlock) (.slice Ao24 t240.length co24) t240) ∧ Aside0 (Kd.R (Kd.int .i64) 3 wc w.heap.size (fun k_ => some k_ ≠ ((.slice Ao24 t240.length co24) : Value).ownBlock ∧ some k_ ≠ ((.slice Ao33 t252.length co33) : Value).ownBlock ∧ some k_ ≠ ((.slice Ao34 t255.length co34) : Value).ownBlock ∧ some k_ ≠ ((.slice Ao42 t264.length co42) : Value).ownBlock ∧ some k_ ≠ ((.slice Ao43 t267.length co43) : Value).ownBlock) (.slice Ao25 t243.length co25) t243) ∧ Aside0 (Kd.R k123 123 wc w.heap.size (fun k_ => some k_ ≠ ((.slice Ao21 t237.length co21) : Value).ownBlock ∧ some k_ ≠ ((.slice Ao37 t261.length co37) : Value).ownBlock) (.slice Ao29 t249.length co29) t249) ∧ Aside0 (Kd.R (Kd.int .i64) 3 wc w.heap.size (fun k_ => some k_ ≠ ((.slice Ao24 t240.length co24) : Value).ownBlock ∧ some k_ ≠ ((.slice Ao25 t243.length co25) : Value).ownBlock ∧ some k_ ≠ ((.slice Ao34 t255.length co34) : Value).ownBlock ∧ some k_ ≠ ((.slice Ao42 t264.length co42) : Value).ownBlock ∧ some k_ ≠ ((.slice Ao43 t267.length co43) : Value).ownBlock) (.slice Ao33 t252.length co33) t252) ∧ Aside0 (Kd.R (Kd.int .i64) 3 wc w.heap.size (fun k_ => some k_ ≠ ((.slice Ao24 t240.length co24) : Value).ownBlock ∧ some k_ ≠ ((.slice Ao25 t243.length co25) : Value).ownBlock ∧ some k_ ≠ ((.slice Ao33 t252.length co33) : Value).ownBlock ∧ some k_ ≠ ((.slice Ao42 t264.length co42) : Value).ownBlock ∧ some k_ ≠ ((.slice Ao43 t267.length co43) : Value).ownBlock) (.slice Ao34 t255.length co34) t255) ∧ Aside0 (Kd.R k123 123 wc w.heap.size (fun k_ => some k_ ≠ ((.slice Ao21 t237.length co21) : Value).ownBlock ∧ some k_ ≠ ((.slice Ao29 t249.length co29) : Value).ownBlock) (.slice Ao37 t261.length co37) t261) ∧ Aside0 (Kd.R (Kd.int .i64) 3 wc w.heap.size (fun k_ => some k_ ≠ ((.slice Ao24 t240.length co24) : Value).ownBlock ∧ some k_ ≠ ((.slice Ao25 t243.length co25) : Value).ownBlock ∧ some k_ ≠ ((.slice Ao33 t252.length co33) : Value).ownBlock ∧ some k_ ≠ ((.slice Ao34 t255.length co34) : Value).ownBlock ∧ some k_ ≠ ((.slice Ao43 t267.length co43) : Value).ownBlock) (.slice Ao42 t264.length co42) t264) ∧ Aside0 (Kd.R (Kd.int .i64) 3 wc w.heap.size (fun k_ => some k_ ≠ ((.slice Ao24 t240.length co24) : Value).ownBlock ∧ some k_ ≠ ((.slice Ao25 t243.length co25) : Value).ownBlock ∧ some k_ ≠ ((.slice Ao33 t252.length co33) : Value).ownBlock ∧ some k_ ≠ ((.slice Ao34 t255.length co34) : Value).ownBlock ∧ some k_ ≠ ((.slice Ao42 t264.length co42) : Value).ownBlock) (.slice Ao43 t267.length co43) t267) ∧ Aside0 (wc.heap[gb224]? = some (.cells #[(.slice A0_0 l0_0.length c0_0), (.slice A0_1 l0_1.length c0_1), (.slice A0_2 l0_2.length c0_2), .int .i64 a0_3, .int .i64 a0_4] 77 (0, 0))) ∧ Aside0 (wc.heap[gb248]? = some (.cells #[(.slice Ao21 t237.length co21), (.slice Ao24 t240.length co24), (.slice Ao25 t243.length co25), .int .i64 t246, .int .i64 t247] 57 (0, 0))) ∧ Aside0 (wc.heap[gb260]? = some (.cells #[(.slice Ao29 t249.length co29), (.slice Ao33 t252.length co33), (.slice Ao34 t255.length co34), .int .i64 t258, .int .i64 t259] 57 (0, 0))) ∧ Aside0 (wc.heap[gb272]? = some (.cells #[(.slice Ao37 t261.length co37), (.slice Ao42 t264.length co42), (.slice Ao43 t267.length co43), .int .i64 t270, .int .i64 t271] 57 (0, 0))) ∧ Aside0 (Below w.heap.size w wc))
   case first =>
    have H := HC13.out
    clear HC13
    by_cases c46 : t273 = true
    ·
     subst c46
     have H1 : (laws_FnExactSpend.j1 kj2 l0_0 l0_1 l0_2 a0_3 a0_4 t237 t240 t243 t246 t247 t249 t252 t255 t258 t259 t261 t264 t267 t270 t271) = some r := by rw [if_pos rfl] at H; exact H
     clear H
     have H := H1
     clear H1
     have H' := Aside0.mk H
     clear H
     go_wp2
     go_meet
     case rel => exact ⟨_, H', ⟨by have := HJ2.out; first | omega | exact Nat.le_refl _⟩, ⟨by (with_reducible repeat (first | apply Kd.R_alloc | apply Kd.R_drewN | apply Kd.R_drew)); exact Kd.R_mono HO239.out (fun _ hk => ⟨hk.1.2, hk.2⟩)⟩, ⟨by (with_reducible repeat (first | apply Kd.R_alloc | apply Kd.R_drewN | apply Kd.R_drew)); exact Kd.R_mono HO242.out (fun _ hk => ⟨hk.1.1.1.1.1.1, ⟨hk.1.1.1.2, ⟨hk.1.1.2, ⟨hk.1.2, hk.2⟩⟩⟩⟩)⟩, ⟨by (with_reducible repeat (first | apply Kd.R_alloc | apply Kd.R_drewN | apply Kd.R_drew)); exact Kd.R_mono HO245.out (fun _ hk => ⟨hk.1.1.1.1.1.1, ⟨hk.1.1.1.2, ⟨hk.1.1.2, ⟨hk.1.2, hk.2⟩⟩⟩⟩)⟩, ⟨by (with_reducible repeat (first | apply Kd.R_alloc | apply Kd.R_drewN | apply Kd.R_drew)); exact Kd.R_mono HO251.out (fun _ hk => ⟨hk.1.2, hk.2⟩)⟩, ⟨by (with_reducible repeat (first | apply Kd.R_alloc | apply Kd.R_drewN | apply Kd.R_drew)); exact Kd.R_mono HO254.out (fun _ hk => ⟨hk.1.1.1.2, ⟨hk.1.1.2, ⟨hk.1.1.1.1, ⟨hk.1.2, hk.2⟩⟩⟩⟩)⟩, ⟨by (with_reducible repeat (first | apply Kd.R_alloc | apply Kd.R_drewN | apply Kd.R_drew)); exact Kd.R_mono HO257.out (fun _ hk => ⟨hk.1.1.1.2, ⟨hk.1.1.2, ⟨hk.1.1.1.1, ⟨hk.1.2, hk.2⟩⟩⟩⟩)⟩, ⟨by (with_reducible repeat (first | apply Kd.R_alloc | apply Kd.R_drewN | apply Kd.R_drew)); exact Kd.R_mono HO263.out (fun _ hk => ⟨hk.1.2, hk.2⟩)⟩, ⟨by (with_reducible repeat (first | apply Kd.R_alloc | apply Kd.R_drewN | apply Kd.R_drew)); exact Kd.R_mono HO266.out (fun _ hk => ⟨hk.1.1.1.2, ⟨hk.1.1.2, ⟨hk.1.2, ⟨hk.2, hk.1.1.1.1⟩⟩⟩⟩)⟩, ⟨by (with_reducible repeat (first | apply Kd.R_alloc | apply Kd.R_drewN | apply Kd.R_drew)); exact Kd.R_mono HO269.out (fun _ hk => ⟨hk.1.1.1.2, ⟨hk.1.1.2, ⟨hk.1.2, ⟨hk.2, hk.1.1.1.1⟩⟩⟩⟩)⟩, ⟨by (with_reducible repeat (first | refine blk_drewN ?_ _ | refine blk_drew ?_ | refine blk_alloc ?_ _)); exact BK224.out⟩, ⟨by (with_reducible repeat (first | refine blk_drewN ?_ _ | refine blk_drew ?_ | refine blk_alloc ?_ _)); exact BK248.out⟩, ⟨by (with_reducible repeat (first | refine blk_drewN ?_ _ | refine blk_drew ?_ | refine blk_alloc ?_ _)); exact BK260.out⟩, ⟨by (with_reducible repeat (first | refine blk_drewN ?_ _ | refine blk_drew ?_ | refine blk_alloc ?_ _)); exact BK272.out⟩, ⟨by repeat (first | (with_reducible first | exact HB.out | apply below_alloc | apply pw_below_drewN | apply below_drew1 | refine below_set ?_ GE224.out | refine below_set ?_ GE248.out | refine below_set ?_ GE260.out | refine below_set ?_ GE272.out) | exact HB.out)⟩⟩
    ·
     replace c46 := Bool.eq_false_iff.mpr c46
     subst c46
     have H1 : (some false) = some r := by rw [if_neg (show ¬ (false = true) by decide)] at H; exact H
     clear H
     have H := H1
     clear H1
     obtain rfl := Option.some.inj H
     go_wp2
     go_ret
     exact ⟨by first | rfl | (simp [errW_none, errW_some] <;> rfl) | (simp [*, errW_none, errW_some] <;> rfl), by repeat (first | (with_reducible first | exact HB.out | apply below_alloc | apply pw_below_drewN | apply below_drew1 | refine below_set ?_ GE224.out | refine below_set ?_ GE248.out | refine below_set ?_ GE260.out | refine below_set ?_ GE272.out) | exact HB.out)⟩
   case rest =>
    clear HC13
    try clear c1
    try clear c2
    try clear p2
    try clear c3
    try clear c4
    try clear c5
    try clear c7
    try clear c7b0
    try clear c12
    try clear c22
    try clear c30
    try clear c31
    try clear c38
    try clear c39
    try clear c40
    try clear c46
    try clear hcz14_0
    try clear hcz14_1
    try clear hcz14_2
    try clear hcz14_3
    try clear hcz14_4
    try clear hcz23_0
    try clear hcz23_1
    try clear hcz23_2
    try clear hcz23_3
    try clear hcz23_4
    try clear hcz26_0
    try clear hcz26_1
    try clear hcz26_2
    try clear hcz26_3
    try clear hcz26_4
    try clear hcz32_0
    try clear hcz32_1
    try clear hcz32_2
    try clear hcz32_3
    try clear hcz32_4
    try clear hcz41_0
    try clear hcz41_1
    try clear hcz41_2
    try clear hcz41_3
    try clear hcz41_4
    try clear hcz44_0
    try clear hcz44_1
    try clear hcz44_2
    try clear hcz44_3
    try clear hcz44_4
    try clear hcz5_0
    try clear hcz5_1
    try clear hcz5_2
    try clear hcz5_3
    try clear hcz5_4
    try clear hfz14_0
    try clear hfz14_1
    try clear hfz14_2
    try clear hfz14_3
    try clear hfz14_4
    try clear hfz23_0
    try clear hfz23_1
    try clear hfz23_2
    try clear hfz23_3
    try clear hfz23_4
    try clear hfz26_0
    try clear hfz26_1
    try clear hfz26_2
    try clear hfz26_3
    try clear hfz26_4
    try clear hfz32_0
    try clear hfz32_1
    try clear hfz32_2
    try clear hfz32_3
    try clear hfz32_4
    try clear hfz41_0
    try clear hfz41_1
    try clear hfz41_2
    try clear hfz41_3
    try clear hfz41_4
    try clear hfz44_0
    try clear hfz44_1
    try clear hfz44_2
    try clear hfz44_3
    try clear hfz44_4
    try clear hfz5_0
    try clear hfz5_1
    try clear hfz5_2
    try clear hfz5_3
    try clear hfz5_4
    try clear p2
    obtain ⟨kq, HA, HJ12, HO_249000, HO_249001, HO_249002, HO_261000, HO_261001, HO_261002, HO_273000, HO_273001, HO_273002, BK224, BK248, BK260, BK272, HB⟩ := hcut
    cases kq with
    | zero => exact absurd HA.out (by simp [laws_FnExactSpend.j1])
    | succ kj12 =>
     have H := HA.out
     clear HA
     simp only [laws_FnExactSpend.j1] at H
     replace H := Option.bind_eq_some_iff.mp H
     obtain ⟨⟨t274, t277, t280, t283, t284⟩, A470, H⟩ := H
     replace H : ((laws_eqMemory.f kj12 t249 t252 t255 t258 t259 t274 t277 t280 t283 t284).bind fun t285 => (if t285 = true then (laws_FnExactSpend.j2 kj12 l0_0 l0_1 l0_2 a0_3 a0_4 t237 t240 t243 t246 t247 t249 t252 t255 t258 t259 t261 t264 t267 t270 t271) else (some false))) = some r := H
     have A47 := Aside0.mk A470
     clear A470
     replace H := Option.bind_eq_some_iff.mp H
     obtain ⟨t285, A480, H⟩ := H
     replace H : (if t285 = true then (laws_FnExactSpend.j2 kj12 l0_0 l0_1 l0_2 a0_3 a0_4 t237 t240 t243 t246 t247 t249 t252 t255 t258 t259 t261 t264 t267 t270 t271) else (some false)) = some r := H
     have A48 := Aside0.mk A480
     clear A480
     have HC49 := Aside0.mk H
     clear H
     try go_wp2
     have n0_ := Aside0.mk (Kd.R_drew HO_249000.out)
     have n1_ := Aside0.mk (Kd.R_drew HO_249001.out)
     have n2_ := Aside0.mk (Kd.R_drew HO_249002.out)
     have n3_ := Aside0.mk (Kd.R_drew HO_261000.out)
     have n4_ := Aside0.mk (Kd.R_drew HO_261001.out)
     have n5_ := Aside0.mk (Kd.R_drew HO_261002.out)
     have n6_ := Aside0.mk (Kd.R_drew HO_273000.out)
     have n7_ := Aside0.mk (Kd.R_drew HO_273001.out)
     have n8_ := Aside0.mk (Kd.R_drew HO_273002.out)
     have n9_ := Aside0.mk (blk_drew BK224.out)
     have n10_ := Aside0.mk (blk_drew BK248.out)
     have n11_ := Aside0.mk (blk_drew BK260.out)
     have n12_ := Aside0.mk (blk_drew BK272.out)
     have n13_ := Aside0.mk (below_drew1 HB.out)
     clear HO_249000
     clear HO_249001
     clear HO_249002
     clear HO_261000
     clear HO_261001
     clear HO_261002
     clear HO_273000
     clear HO_273001
     clear HO_273002
     clear BK224
     clear BK248
     clear BK260
     clear BK272
     clear HB
     have HO_249000 := n0_
     have HO_249001 := n1_
     have HO_249002 := n2_
     have HO_261000 := n3_
     have HO_261001 := n4_
     have HO_261002 := n5_
     have HO_273000 := n6_
     have HO_273001 := n7_
     have HO_273002 := n8_
     have BK224 := n9_
     have BK248 := n10_
     have BK260 := n11_
     have BK272 := n12_
     have HB := n13_
     clear n0_ n1_ n2_ n3_ n4_ n5_ n6_ n7_ n8_ n9_ n10_ n11_ n12_ n13_
     refine start_ (n := 5) (S := fun w' => w'.cell? ⟨gb260, 0, none⟩ = some (.slice Ao29 t249.length co29) ∧ w'.cell? ⟨gb260, 1, none⟩ = some (.slice Ao33 t252.length co33) ∧ w'.cell? ⟨gb260, 2, none⟩ = some (.slice Ao34 t255.length co34) ∧ w'.cell? ⟨gb260, 3, none⟩ = some (.int .i64 t258) ∧ w'.cell? ⟨gb260, 4, none⟩ = some (.int .i64 t259) ∧ w'.cell? ⟨gb224, 0, none⟩ = some (.slice A0_0 l0_0.length c0_0) ∧ w'.cell? ⟨gb224, 1, none⟩ = some (.slice A0_1 l0_1.length c0_1) ∧ w'.cell? ⟨gb224, 2, none⟩ = some (.slice A0_2 l0_2.length c0_2) ∧ w'.cell? ⟨gb224, 3, none⟩ = some (.int .i64 a0_3) ∧ w'.cell? ⟨gb224, 4, none⟩ = some (.int .i64 a0_4)) (ds := []) #[false, false, false, false, false] (by kernel_rfl) rfl rfl ⟨(blk_cell BK260.out 0).trans rfl, (blk_cell BK260.out 1).trans rfl, (blk_cell BK260.out 2).trans rfl, (blk_cell BK260.out 3).trans rfl, (blk_cell BK260.out 4).trans rfl, (blk_cell BK224.out 0).trans rfl, (blk_cell BK224.out 1).trans rfl, (blk_cell BK224.out 2).trans rfl, (blk_cell BK224.out 3).trans rfl, (blk_cell BK224.out 4).trans rfl⟩ (fun hHeld => ?_)
     generalize wc.drew = w50 at HO_249000 HO_249001 HO_249002 HO_261000 HO_261001 HO_261002 HO_273000 HO_273001 HO_273002 BK224 BK248 BK260 BK272 HB hHeld ⊢
     refine take_ (i := 0) (N := some 27) (v := ?_) (a' := ?_) #[true, false, false, false, false] rfl rfl (by kernel_rfl) (fun _ _ _ h => h) (Or.inl ⟨by rfl, ?_⟩) hHeld ?_ ?_
     rotate_left
     ·
      rintro w' ⟨s0, s1, s2, s3, s4, s5, s6, s7, s8, s9⟩
      go_simp
      with_reducible rfl
     rotate_left
     ·
      simp only [Act.put, List.setIfInBounds_toArray, List.set_cons_zero, List.set_cons_succ, i64_w, i32_w]
      rfl
     refine take_ (i := 1) (N := some 28) (v := ?_) (a' := ?_) #[true, true, false, false, false] rfl rfl (by kernel_rfl) (fun _ _ _ h => h) (Or.inl ⟨by rfl, ?_⟩) hHeld ?_ ?_
     rotate_left
     ·
      rintro w' ⟨s0, s1, s2, s3, s4, s5, s6, s7, s8, s9⟩
      go_simp
      with_reducible rfl
     rotate_left
     ·
      simp only [Act.put, List.setIfInBounds_toArray, List.set_cons_zero, List.set_cons_succ, i64_w, i32_w]
      rfl
     refine one_ (i := 2) (N := some 29) #[true, true, true, false, false] rfl rfl (by kernel_rfl) (by decide) (fun K hK => ?_)
     refine goes_ Try.func53 (by kernel_rfl) rfl #[.agg #[.slice A0_0 l0_0.length c0_0, .slice A0_1 l0_1.length c0_1, .slice A0_2 l0_2.length c0_2, .int .i64 a0_3, .int .i64 a0_4]] (by rfl) rfl rfl (by (try simp only [List.map_toArray, List.map_cons, List.map_nil]); first | done | rfl | (simp only [List.length_drop, List.length_take]; rfl)) ?_
     with_reducible refine (laws_toMemory.calls kj12 _ _ l0_0 _ _ l0_1 _ _ l0_2 a0_3 a0_4 t274 t277 t280 t283 t284 _ ?side1 ?side2 ?side3 ?side4 ?side5 ?side6 A47.out).mono ?_
     (case side1 => repeat (first | exact (Kd.C_below HR0_0.out HB.out) | (with_reducible refine Kd.C_alloc ?_ _) | (with_reducible refine Kd.C_drewN ?_ _) | (with_reducible refine Kd.C_drew ?_)))
     (case side2 => exact HC0_0.out)
     (case side3 => repeat (first | exact (Kd.C_below HR0_1.out HB.out) | (with_reducible refine Kd.C_alloc ?_ _) | (with_reducible refine Kd.C_drewN ?_ _) | (with_reducible refine Kd.C_drew ?_)))
     (case side4 => exact HC0_1.out)
     (case side5 => repeat (first | exact (Kd.C_below HR0_2.out HB.out) | (with_reducible refine Kd.C_alloc ?_ _) | (with_reducible refine Kd.C_drewN ?_ _) | (with_reducible refine Kd.C_drew ?_)))
     (case side6 => exact HC0_2.out)
     rintro e w51 ⟨v275, v278, v281, rfl, ho0, ho1, ho2, hb⟩
     refine ⟨_, rfl, ?_⟩
     have n0_ := Aside0.mk (Kd.R_elder' (by (with_reducible repeat (first | apply Kd.R_alloc | apply Kd.R_drewN | apply Kd.R_drew)); exact HO_249000.out) (Kd.R_base ho0) hb)
     have n1_ := Aside0.mk (Kd.R_mono (Kd.R_told (Kd.R_told (Kd.R_old (by (with_reducible repeat (first | apply Kd.R_alloc | apply Kd.R_drewN | apply Kd.R_drew)); exact HO_249001.out) hb) (Kd.R_base ho1)) (Kd.R_base ho2)) (fun _ h_ => h_.1))
     have n2_ := Aside0.mk (Kd.R_mono (Kd.R_told (Kd.R_told (Kd.R_old (by (with_reducible repeat (first | apply Kd.R_alloc | apply Kd.R_drewN | apply Kd.R_drew)); exact HO_249002.out) hb) (Kd.R_base ho1)) (Kd.R_base ho2)) (fun _ h_ => h_.1))
     have n3_ := Aside0.mk (Kd.R_elder' (by (with_reducible repeat (first | apply Kd.R_alloc | apply Kd.R_drewN | apply Kd.R_drew)); exact HO_261000.out) (Kd.R_base ho0) hb)
     have n4_ := Aside0.mk (Kd.R_mono (Kd.R_told (Kd.R_told (Kd.R_old (by (with_reducible repeat (first | apply Kd.R_alloc | apply Kd.R_drewN | apply Kd.R_drew)); exact HO_261001.out) hb) (Kd.R_base ho1)) (Kd.R_base ho2)) (fun _ h_ => h_.1))
     have n5_ := Aside0.mk (Kd.R_mono (Kd.R_told (Kd.R_told (Kd.R_old (by (with_reducible repeat (first | apply Kd.R_alloc | apply Kd.R_drewN | apply Kd.R_drew)); exact HO_261002.out) hb) (Kd.R_base ho1)) (Kd.R_base ho2)) (fun _ h_ => h_.1))
     have n6_ := Aside0.mk (Kd.R_elder' (by (with_reducible repeat (first | apply Kd.R_alloc | apply Kd.R_drewN | apply Kd.R_drew)); exact HO_273000.out) (Kd.R_base ho0) hb)
     have n7_ := Aside0.mk (Kd.R_mono (Kd.R_told (Kd.R_told (Kd.R_old (by (with_reducible repeat (first | apply Kd.R_alloc | apply Kd.R_drewN | apply Kd.R_drew)); exact HO_273001.out) hb) (Kd.R_base ho1)) (Kd.R_base ho2)) (fun _ h_ => h_.1))
     have n8_ := Aside0.mk (Kd.R_mono (Kd.R_told (Kd.R_told (Kd.R_old (by (with_reducible repeat (first | apply Kd.R_alloc | apply Kd.R_drewN | apply Kd.R_drew)); exact HO_273002.out) hb) (Kd.R_base ho1)) (Kd.R_base ho2)) (fun _ h_ => h_.1))
     have n9_ := Aside0.mk (Kd.R_lower (Kd.R_new' (Kd.R_new' (Kd.R_new' ho0 (Kd.R_lt (by (with_reducible repeat (first | apply Kd.R_alloc | apply Kd.R_drewN | apply Kd.R_drew)); exact HO_249000.out))) (Kd.R_lt (by (with_reducible repeat (first | apply Kd.R_alloc | apply Kd.R_drewN | apply Kd.R_drew)); exact HO_261000.out))) (Kd.R_lt (by (with_reducible repeat (first | apply Kd.R_alloc | apply Kd.R_drewN | apply Kd.R_drew)); exact HO_273000.out))) (below_size (by repeat (first | (with_reducible first | exact HB.out | apply below_alloc | apply pw_below_drewN | apply below_drew1 | refine below_set ?_ GE224.out | refine below_set ?_ GE248.out | refine below_set ?_ GE260.out | refine below_set ?_ GE272.out) | exact HB.out))))
     have n10_ := Aside0.mk (Kd.R_lower (Kd.R_new' (Kd.R_new' (Kd.R_new' (Kd.R_new' (Kd.R_new' (Kd.R_new' ho1 (Kd.R_lt (by (with_reducible repeat (first | apply Kd.R_alloc | apply Kd.R_drewN | apply Kd.R_drew)); exact HO_249001.out))) (Kd.R_lt (by (with_reducible repeat (first | apply Kd.R_alloc | apply Kd.R_drewN | apply Kd.R_drew)); exact HO_249002.out))) (Kd.R_lt (by (with_reducible repeat (first | apply Kd.R_alloc | apply Kd.R_drewN | apply Kd.R_drew)); exact HO_261001.out))) (Kd.R_lt (by (with_reducible repeat (first | apply Kd.R_alloc | apply Kd.R_drewN | apply Kd.R_drew)); exact HO_261002.out))) (Kd.R_lt (by (with_reducible repeat (first | apply Kd.R_alloc | apply Kd.R_drewN | apply Kd.R_drew)); exact HO_273001.out))) (Kd.R_lt (by (with_reducible repeat (first | apply Kd.R_alloc | apply Kd.R_drewN | apply Kd.R_drew)); exact HO_273002.out))) (below_size (by repeat (first | (with_reducible first | exact HB.out | apply below_alloc | apply pw_below_drewN | apply below_drew1 | refine below_set ?_ GE224.out | refine below_set ?_ GE248.out | refine below_set ?_ GE260.out | refine below_set ?_ GE272.out) | exact HB.out))))
     have n11_ := Aside0.mk (Kd.R_lower (Kd.R_new' (Kd.R_new' (Kd.R_new' (Kd.R_new' (Kd.R_new' (Kd.R_new' ho2 (Kd.R_lt (by (with_reducible repeat (first | apply Kd.R_alloc | apply Kd.R_drewN | apply Kd.R_drew)); exact HO_249001.out))) (Kd.R_lt (by (with_reducible repeat (first | apply Kd.R_alloc | apply Kd.R_drewN | apply Kd.R_drew)); exact HO_249002.out))) (Kd.R_lt (by (with_reducible repeat (first | apply Kd.R_alloc | apply Kd.R_drewN | apply Kd.R_drew)); exact HO_261001.out))) (Kd.R_lt (by (with_reducible repeat (first | apply Kd.R_alloc | apply Kd.R_drewN | apply Kd.R_drew)); exact HO_261002.out))) (Kd.R_lt (by (with_reducible repeat (first | apply Kd.R_alloc | apply Kd.R_drewN | apply Kd.R_drew)); exact HO_273001.out))) (Kd.R_lt (by (with_reducible repeat (first | apply Kd.R_alloc | apply Kd.R_drewN | apply Kd.R_drew)); exact HO_273002.out))) (below_size (by repeat (first | (with_reducible first | exact HB.out | apply below_alloc | apply pw_below_drewN | apply below_drew1 | refine below_set ?_ GE224.out | refine below_set ?_ GE248.out | refine below_set ?_ GE260.out | refine below_set ?_ GE272.out) | exact HB.out))))
     have n12_ := Aside0.mk (blk_below (g := gb224) (o := .cells #[.slice A0_0 l0_0.length c0_0, .slice A0_1 l0_1.length c0_1, .slice A0_2 l0_2.length c0_2, .int .i64 a0_3, .int .i64 a0_4] 77 (0, 0)) (by (with_reducible repeat (first | refine blk_drewN ?_ _ | refine blk_drew ?_ | refine blk_alloc ?_ _)); exact BK224.out) hb)
     have n13_ := Aside0.mk (blk_below (g := gb248) (o := .cells #[.slice Ao21 t237.length co21, .slice Ao24 t240.length co24, .slice Ao25 t243.length co25, .int .i64 t246, .int .i64 t247] 57 (0, 0)) (by (with_reducible repeat (first | refine blk_drewN ?_ _ | refine blk_drew ?_ | refine blk_alloc ?_ _)); exact BK248.out) hb)
     have n14_ := Aside0.mk (blk_below (g := gb260) (o := .cells #[.slice Ao29 t249.length co29, .slice Ao33 t252.length co33, .slice Ao34 t255.length co34, .int .i64 t258, .int .i64 t259] 57 (0, 0)) (by (with_reducible repeat (first | refine blk_drewN ?_ _ | refine blk_drew ?_ | refine blk_alloc ?_ _)); exact BK260.out) hb)
     have n15_ := Aside0.mk (blk_below (g := gb272) (o := .cells #[.slice Ao37 t261.length co37, .slice Ao42 t264.length co42, .slice Ao43 t267.length co43, .int .i64 t270, .int .i64 t271] 57 (0, 0)) (by (with_reducible repeat (first | refine blk_drewN ?_ _ | refine blk_drew ?_ | refine blk_alloc ?_ _)); exact BK272.out) hb)
     have n16_ := Aside0.mk (below_step (by repeat (first | (with_reducible first | exact HB.out | apply below_alloc | apply pw_below_drewN | apply below_drew1 | refine below_set ?_ GE224.out | refine below_set ?_ GE248.out | refine below_set ?_ GE260.out | refine below_set ?_ GE272.out) | exact HB.out)) hb)
     clear HO_249000
     clear HO_249001
     clear HO_249002
     clear HO_261000
     clear HO_261001
     clear HO_261002
     clear HO_273000
     clear HO_273001
     clear HO_273002
     clear BK224
     clear BK248
     clear BK260
     clear BK272
     clear HB
     have HO_249000 := n0_
     have HO_249001 := n1_
     have HO_249002 := n2_
     have HO_261000 := n3_
     have HO_261001 := n4_
     have HO_261002 := n5_
     have HO_273000 := n6_
     have HO_273001 := n7_
     have HO_273002 := n8_
     have HO276 := n9_
     have HO279 := n10_
     have HO282 := n11_
     have BK224 := n12_
     have BK248 := n13_
     have BK260 := n14_
     have BK272 := n15_
     have HB := n16_
     clear n0_ n1_ n2_ n3_ n4_ n5_ n6_ n7_ n8_ n9_ n10_ n11_ n12_ n13_ n14_ n15_ n16_
     (try clear hb)
     (try clear hb2)
     (try clear hk)
     (try clear hi)
     (try clear ho0)
     (try clear ho1)
     (try clear ho2)
     obtain ⟨Ao52, co52, eo52⟩ := Kd.R_slice HO276.out
     (first | subst eo52 | (injection eo52 with f1_ f2_ f3_; have f4_ := f1_.symm; have f5_ := f3_.symm; clear f1_ f2_ f3_; subst f4_; subst f5_))
     obtain ⟨Ao53, co53, eo53⟩ := Kd.R_slice HO279.out
     (first | subst eo53 | (injection eo53 with f1_ f2_ f3_; have f4_ := f1_.symm; have f5_ := f3_.symm; clear f1_ f2_ f3_; subst f4_; subst f5_))
     obtain ⟨Ao54, co54, eo54⟩ := Kd.R_slice HO282.out
     (first | subst eo54 | (injection eo54 with f1_ f2_ f3_; have f4_ := f1_.symm; have f5_ := f3_.symm; clear f1_ f2_ f3_; subst f4_; subst f5_))
     refine hK.out _ _ ⟨(blk_cell BK260.out 0).trans rfl, (blk_cell BK260.out 1).trans rfl, (blk_cell BK260.out 2).trans rfl, (blk_cell BK260.out 3).trans rfl, (blk_cell BK260.out 4).trans rfl, (blk_cell BK224.out 0).trans rfl, (blk_cell BK224.out 1).trans rfl, (blk_cell BK224.out 2).trans rfl, (blk_cell BK224.out 3).trans rfl, (blk_cell BK224.out 4).trans rfl⟩ (fun hHeld => ?_)
     clear hK K
     refine norm_ (a' := ?_) ?_ ?_
     rotate_left
     ·
      show Act.put _ (some 29) _ = _
      simp only [Act.put, List.setIfInBounds_toArray, List.set_cons_zero, List.set_cons_succ, i64_w, i32_w]
      rfl
     refine one_ (i := 3) (N := some 30) #[true, true, true, true, false] rfl rfl (by kernel_rfl) (by decide) (fun K hK => ?_)
     refine goes_ Try.func40 (by kernel_rfl) rfl #[.agg #[.slice Ao29 t249.length co29, .slice Ao33 t252.length co33, .slice Ao34 t255.length co34, .int .i64 t258, .int .i64 t259], .agg #[.slice Ao52 t274.length co52, .slice Ao53 t277.length co53, .slice Ao54 t280.length co54, .int .i64 t283, .int .i64 t284]] (by rfl) rfl rfl (by (try simp only [List.map_toArray, List.map_cons, List.map_nil]); first | done | rfl | (simp only [List.length_drop, List.length_take]; rfl)) ?_
     with_reducible refine (laws_eqMemory.calls kj12 _ _ t249 _ _ t252 _ _ t255 t258 t259 _ _ t274 _ _ t277 _ _ t280 t283 t284 t285 _ ?side1 ?side2 ?side3 ?side4 ?side5 ?side6 ?side7 ?side8 ?side9 ?side10 ?side11 ?side12 A48.out).mono ?_
     (case side1 => repeat (first | exact (Kd.R_reads' HO_261000.out).2.2 | (with_reducible refine Kd.C_alloc ?_ _) | (with_reducible refine Kd.C_drewN ?_ _) | (with_reducible refine Kd.C_drew ?_)))
     (case side2 => exact (Kd.R_reads' HO_261000.out).2.1)
     (case side3 => repeat (first | exact (Kd.R_reads' HO_261001.out).2.2 | (with_reducible refine Kd.C_alloc ?_ _) | (with_reducible refine Kd.C_drewN ?_ _) | (with_reducible refine Kd.C_drew ?_)))
     (case side4 => exact (Kd.R_reads' HO_261001.out).2.1)
     (case side5 => repeat (first | exact (Kd.R_reads' HO_261002.out).2.2 | (with_reducible refine Kd.C_alloc ?_ _) | (with_reducible refine Kd.C_drewN ?_ _) | (with_reducible refine Kd.C_drew ?_)))
     (case side6 => exact (Kd.R_reads' HO_261002.out).2.1)
     (case side7 => repeat (first | exact (Kd.R_reads' HO276.out).2.2 | (with_reducible refine Kd.C_alloc ?_ _) | (with_reducible refine Kd.C_drewN ?_ _) | (with_reducible refine Kd.C_drew ?_)))
     (case side8 => exact (Kd.R_reads' HO276.out).2.1)
     (case side9 => repeat (first | exact (Kd.R_reads' HO279.out).2.2 | (with_reducible refine Kd.C_alloc ?_ _) | (with_reducible refine Kd.C_drewN ?_ _) | (with_reducible refine Kd.C_drew ?_)))
     (case side10 => exact (Kd.R_reads' HO279.out).2.1)
     (case side11 => repeat (first | exact (Kd.R_reads' HO282.out).2.2 | (with_reducible refine Kd.C_alloc ?_ _) | (with_reducible refine Kd.C_drewN ?_ _) | (with_reducible refine Kd.C_drew ?_)))
     (case side12 => exact (Kd.R_reads' HO282.out).2.1)
     rintro e w55 ⟨rfl, hb⟩
     refine ⟨_, rfl, ?_⟩
     have n0_ := Aside0.mk (Kd.R_below (by (with_reducible repeat (first | apply Kd.R_alloc | apply Kd.R_drewN | apply Kd.R_drew)); exact HO_249000.out) hb)
     have n1_ := Aside0.mk (Kd.R_below (by (with_reducible repeat (first | apply Kd.R_alloc | apply Kd.R_drewN | apply Kd.R_drew)); exact HO_249001.out) hb)
     have n2_ := Aside0.mk (Kd.R_below (by (with_reducible repeat (first | apply Kd.R_alloc | apply Kd.R_drewN | apply Kd.R_drew)); exact HO_249002.out) hb)
     have n3_ := Aside0.mk (Kd.R_below (by (with_reducible repeat (first | apply Kd.R_alloc | apply Kd.R_drewN | apply Kd.R_drew)); exact HO_261000.out) hb)
     have n4_ := Aside0.mk (Kd.R_below (by (with_reducible repeat (first | apply Kd.R_alloc | apply Kd.R_drewN | apply Kd.R_drew)); exact HO_261001.out) hb)
     have n5_ := Aside0.mk (Kd.R_below (by (with_reducible repeat (first | apply Kd.R_alloc | apply Kd.R_drewN | apply Kd.R_drew)); exact HO_261002.out) hb)
     have n6_ := Aside0.mk (Kd.R_below (by (with_reducible repeat (first | apply Kd.R_alloc | apply Kd.R_drewN | apply Kd.R_drew)); exact HO_273000.out) hb)
     have n7_ := Aside0.mk (Kd.R_below (by (with_reducible repeat (first | apply Kd.R_alloc | apply Kd.R_drewN | apply Kd.R_drew)); exact HO_273001.out) hb)
     have n8_ := Aside0.mk (Kd.R_below (by (with_reducible repeat (first | apply Kd.R_alloc | apply Kd.R_drewN | apply Kd.R_drew)); exact HO_273002.out) hb)
     have n9_ := Aside0.mk (Kd.R_below (by (with_reducible repeat (first | apply Kd.R_alloc | apply Kd.R_drewN | apply Kd.R_drew)); exact HO276.out) hb)
     have n10_ := Aside0.mk (Kd.R_below (by (with_reducible repeat (first | apply Kd.R_alloc | apply Kd.R_drewN | apply Kd.R_drew)); exact HO279.out) hb)
     have n11_ := Aside0.mk (Kd.R_below (by (with_reducible repeat (first | apply Kd.R_alloc | apply Kd.R_drewN | apply Kd.R_drew)); exact HO282.out) hb)
     have n12_ := Aside0.mk (blk_below (g := gb224) (o := .cells #[.slice A0_0 l0_0.length c0_0, .slice A0_1 l0_1.length c0_1, .slice A0_2 l0_2.length c0_2, .int .i64 a0_3, .int .i64 a0_4] 77 (0, 0)) (by (with_reducible repeat (first | refine blk_drewN ?_ _ | refine blk_drew ?_ | refine blk_alloc ?_ _)); exact BK224.out) hb)
     have n13_ := Aside0.mk (blk_below (g := gb248) (o := .cells #[.slice Ao21 t237.length co21, .slice Ao24 t240.length co24, .slice Ao25 t243.length co25, .int .i64 t246, .int .i64 t247] 57 (0, 0)) (by (with_reducible repeat (first | refine blk_drewN ?_ _ | refine blk_drew ?_ | refine blk_alloc ?_ _)); exact BK248.out) hb)
     have n14_ := Aside0.mk (blk_below (g := gb260) (o := .cells #[.slice Ao29 t249.length co29, .slice Ao33 t252.length co33, .slice Ao34 t255.length co34, .int .i64 t258, .int .i64 t259] 57 (0, 0)) (by (with_reducible repeat (first | refine blk_drewN ?_ _ | refine blk_drew ?_ | refine blk_alloc ?_ _)); exact BK260.out) hb)
     have n15_ := Aside0.mk (blk_below (g := gb272) (o := .cells #[.slice Ao37 t261.length co37, .slice Ao42 t264.length co42, .slice Ao43 t267.length co43, .int .i64 t270, .int .i64 t271] 57 (0, 0)) (by (with_reducible repeat (first | refine blk_drewN ?_ _ | refine blk_drew ?_ | refine blk_alloc ?_ _)); exact BK272.out) hb)
     have n16_ := Aside0.mk (below_step (by repeat (first | (with_reducible first | exact HB.out | apply below_alloc | apply pw_below_drewN | apply below_drew1 | refine below_set ?_ GE224.out | refine below_set ?_ GE248.out | refine below_set ?_ GE260.out | refine below_set ?_ GE272.out) | exact HB.out)) hb)
     clear HO_249000
     clear HO_249001
     clear HO_249002
     clear HO_261000
     clear HO_261001
     clear HO_261002
     clear HO_273000
     clear HO_273001
     clear HO_273002
     clear HO276
     clear HO279
     clear HO282
     clear BK224
     clear BK248
     clear BK260
     clear BK272
     clear HB
     have HO_249000 := n0_
     have HO_249001 := n1_
     have HO_249002 := n2_
     have HO_261000 := n3_
     have HO_261001 := n4_
     have HO_261002 := n5_
     have HO_273000 := n6_
     have HO_273001 := n7_
     have HO_273002 := n8_
     have HO276 := n9_
     have HO279 := n10_
     have HO282 := n11_
     have BK224 := n12_
     have BK248 := n13_
     have BK260 := n14_
     have BK272 := n15_
     have HB := n16_
     clear n0_ n1_ n2_ n3_ n4_ n5_ n6_ n7_ n8_ n9_ n10_ n11_ n12_ n13_ n14_ n15_ n16_
     (try clear hb)
     (try clear hb2)
     (try clear hk)
     (try clear hi)
     refine hK.out _ _ ⟨(blk_cell BK260.out 0).trans rfl, (blk_cell BK260.out 1).trans rfl, (blk_cell BK260.out 2).trans rfl, (blk_cell BK260.out 3).trans rfl, (blk_cell BK260.out 4).trans rfl, (blk_cell BK224.out 0).trans rfl, (blk_cell BK224.out 1).trans rfl, (blk_cell BK224.out 2).trans rfl, (blk_cell BK224.out 3).trans rfl, (blk_cell BK224.out 4).trans rfl⟩ (fun hHeld => ?_)
     clear hK K
     refine norm_ (a' := ?_) ?_ ?_
     rotate_left
     ·
      show Act.put _ (some 30) _ = _
      simp only [Act.put, List.setIfInBounds_toArray, List.set_cons_zero, List.set_cons_succ, i64_w, i32_w]
      rfl
     refine pure_ (i := 4) (N := some 31) (v := ?_) (a' := ?_) #[true, true, true, true, true] rfl rfl (by kernel_rfl) (fun _ _ _ h => h) (Or.inl ⟨by rfl, ?_⟩) ?_ ?_
     rotate_left
     ·
      intro w'
      go_simp
      with_reducible rfl
     rotate_left
     ·
      simp only [Act.put, List.setIfInBounds_toArray, List.set_cons_zero, List.set_cons_succ, i64_w, i32_w]
      rfl
     refine done_ (by kernel_rfl) ?_
     go_upto_if 31 with (fail)
     go_cut [] (fun wc => ∃ (kq : Nat), Aside0 (laws_FnExactSpend.j2 kq l0_0 l0_1 l0_2 a0_3 a0_4 t237 t240 t243 t246 t247 t249 t252 t255 t258 t259 t261 t264 t267 t270 t271 = some r) ∧ Aside0 (kq ≤ kj12) ∧ Aside0 (Kd.R k123 123 wc w.heap.size (fun k_ => some k_ ≠ ((.slice Ao29 t249.length co29) : Value).ownBlock ∧ some k_ ≠ ((.slice Ao37 t261.length co37) : Value).ownBlock) (.slice Ao21 t237.length co21) t237) ∧ Aside0 (Kd.R (Kd.int .i64) 3 wc w.heap.size (fun k_ => some k_ ≠ ((.slice Ao25 t243.length co25) : Value).ownBlock ∧ some k_ ≠ ((.slice Ao33 t252.length co33) : Value).ownBlock ∧ some k_ ≠ ((.slice Ao34 t255.length co34) : Value).ownBlock ∧ some k_ ≠ ((.slice Ao42 t264.length co42) : Value).ownBlock ∧ some k_ ≠ ((.slice Ao43 t267.length co43) : Value).ownBlock) (.slice Ao24 t240.length co24) t240) ∧ Aside0 (Kd.R (Kd.int .i64) 3 wc w.heap.size (fun k_ => some k_ ≠ ((.slice Ao24 t240.length co24) : Value).ownBlock ∧ some k_ ≠ ((.slice Ao33 t252.length co33) : Value).ownBlock ∧ some k_ ≠ ((.slice Ao34 t255.length co34) : Value).ownBlock ∧ some k_ ≠ ((.slice Ao42 t264.length co42) : Value).ownBlock ∧ some k_ ≠ ((.slice Ao43 t267.length co43) : Value).ownBlock) (.slice Ao25 t243.length co25) t243) ∧ Aside0 (Kd.R k123 123 wc w.heap.size (fun k_ => some k_ ≠ ((.slice Ao21 t237.length co21) : Value).ownBlock ∧ some k_ ≠ ((.slice Ao37 t261.length co37) : Value).ownBlock) (.slice Ao29 t249.length co29) t249) ∧ Aside0 (Kd.R (Kd.int .i64) 3 wc w.heap.size (fun k_ => some k_ ≠ ((.slice Ao24 t240.length co24) : Value).ownBlock ∧ some k_ ≠ ((.slice Ao25 t243.length co25) : Value).ownBlock ∧ some k_ ≠ ((.slice Ao34 t255.length co34) : Value).ownBlock ∧ some k_ ≠ ((.slice Ao42 t264.length co42) : Value).ownBlock ∧ some k_ ≠ ((.slice Ao43 t267.length co43) : Value).ownBlock) (.slice Ao33 t252.length co33) t252) ∧ Aside0 (Kd.R (Kd.int .i64) 3 wc w.heap.size (fun k_ => some k_ ≠ ((.slice Ao24 t240.length co24) : Value).ownBlock ∧ some k_ ≠ ((.slice Ao25 t243.length co25) : Value).ownBlock ∧ some k_ ≠ ((.slice Ao33 t252.length co33) : Value).ownBlock ∧ some k_ ≠ ((.slice Ao42 t264.length co42) : Value).ownBlock ∧ some k_ ≠ ((.slice Ao43 t267.length co43) : Value).ownBlock) (.slice Ao34 t255.length co34) t255) ∧ Aside0 (Kd.R k123 123 wc w.heap.size (fun k_ => some k_ ≠ ((.slice Ao21 t237.length co21) : Value).ownBlock ∧ some k_ ≠ ((.slice Ao29 t249.length co29) : Value).ownBlock) (.slice Ao37 t261.length co37) t261) ∧ Aside0 (Kd.R (Kd.int .i64) 3 wc w.heap.size (fun k_ => some k_ ≠ ((.slice Ao24 t240.length co24) : Value).ownBlock ∧ some k_ ≠ ((.slice Ao25 t243.length co25) : Value).ownBlock ∧ some k_ ≠ ((.slice Ao33 t252.length co33) : Value).ownBlock ∧ some k_ ≠ ((.slice Ao34 t255.length co34) : Value).ownBlock ∧ some k_ ≠ ((.slice Ao43 t267.length co43) : Value).ownBlock) (.slice Ao42 t264.length co42) t264) ∧ Aside0 (Kd.R (Kd.int .i64) 3 wc w.heap.size (fun k_ => some k_ ≠ ((.slice Ao24 t240.length co24) : Value).ownBlock ∧ some k_ ≠ ((.slice Ao25 t243.length co25) : Value).ownBlock ∧ some k_ ≠ ((.slice Ao33 t252.length co33) : Value).ownBlock ∧ some k_ ≠ ((.slice Ao34 t255.length co34) : Value).ownBlock ∧ some k_ ≠ ((.slice Ao42 t264.length co42) : Value).ownBlock) (.slice Ao43 t267.length co43) t267) ∧ Aside0 (wc.heap[gb224]? = some (.cells #[(.slice A0_0 l0_0.length c0_0), (.slice A0_1 l0_1.length c0_1), (.slice A0_2 l0_2.length c0_2), .int .i64 a0_3, .int .i64 a0_4] 77 (0, 0))) ∧ Aside0 (wc.heap[gb248]? = some (.cells #[(.slice Ao21 t237.length co21), (.slice Ao24 t240.length co24), (.slice Ao25 t243.length co25), .int .i64 t246, .int .i64 t247] 57 (0, 0))) ∧ Aside0 (wc.heap[gb260]? = some (.cells #[(.slice Ao29 t249.length co29), (.slice Ao33 t252.length co33), (.slice Ao34 t255.length co34), .int .i64 t258, .int .i64 t259] 57 (0, 0))) ∧ Aside0 (wc.heap[gb272]? = some (.cells #[(.slice Ao37 t261.length co37), (.slice Ao42 t264.length co42), (.slice Ao43 t267.length co43), .int .i64 t270, .int .i64 t271] 57 (0, 0))) ∧ Aside0 (Below w.heap.size w wc))
     case first =>
      have H := HC49.out
      clear HC49
      by_cases c56 : t285 = true
      ·
       subst c56
       have H1 : (laws_FnExactSpend.j2 kj12 l0_0 l0_1 l0_2 a0_3 a0_4 t237 t240 t243 t246 t247 t249 t252 t255 t258 t259 t261 t264 t267 t270 t271) = some r := by rw [if_pos rfl] at H; exact H
       clear H
       have H := H1
       clear H1
       have H' := Aside0.mk H
       clear H
       go_wp2
       go_meet
       case rel => exact ⟨_, H', ⟨by have := HJ2.out; have := HJ12.out; first | omega | exact Nat.le_refl _⟩, ⟨by (with_reducible repeat (first | apply Kd.R_alloc | apply Kd.R_drewN | apply Kd.R_drew)); exact Kd.R_mono HO_249000.out (fun _ hk => ⟨hk.1.1, hk.1.2⟩)⟩, ⟨by (with_reducible repeat (first | apply Kd.R_alloc | apply Kd.R_drewN | apply Kd.R_drew)); exact Kd.R_mono HO_249001.out (fun _ hk => ⟨hk.1.1.1, ⟨hk.1.1.2.1, ⟨hk.1.1.2.2.1, ⟨hk.1.1.2.2.2.1, hk.1.1.2.2.2.2⟩⟩⟩⟩)⟩, ⟨by (with_reducible repeat (first | apply Kd.R_alloc | apply Kd.R_drewN | apply Kd.R_drew)); exact Kd.R_mono HO_249002.out (fun _ hk => ⟨hk.1.1.1, ⟨hk.1.1.2.1, ⟨hk.1.1.2.2.1, ⟨hk.1.1.2.2.2.1, hk.1.1.2.2.2.2⟩⟩⟩⟩)⟩, ⟨by (with_reducible repeat (first | apply Kd.R_alloc | apply Kd.R_drewN | apply Kd.R_drew)); exact Kd.R_mono HO_261000.out (fun _ hk => ⟨hk.1.1, hk.1.2⟩)⟩, ⟨by (with_reducible repeat (first | apply Kd.R_alloc | apply Kd.R_drewN | apply Kd.R_drew)); exact Kd.R_mono HO_261001.out (fun _ hk => ⟨hk.1.1.1, ⟨hk.1.1.2.1, ⟨hk.1.1.2.2.1, ⟨hk.1.1.2.2.2.1, hk.1.1.2.2.2.2⟩⟩⟩⟩)⟩, ⟨by (with_reducible repeat (first | apply Kd.R_alloc | apply Kd.R_drewN | apply Kd.R_drew)); exact Kd.R_mono HO_261002.out (fun _ hk => ⟨hk.1.1.1, ⟨hk.1.1.2.1, ⟨hk.1.1.2.2.1, ⟨hk.1.1.2.2.2.1, hk.1.1.2.2.2.2⟩⟩⟩⟩)⟩, ⟨by (with_reducible repeat (first | apply Kd.R_alloc | apply Kd.R_drewN | apply Kd.R_drew)); exact Kd.R_mono HO_273000.out (fun _ hk => ⟨hk.1.1, hk.1.2⟩)⟩, ⟨by (with_reducible repeat (first | apply Kd.R_alloc | apply Kd.R_drewN | apply Kd.R_drew)); exact Kd.R_mono HO_273001.out (fun _ hk => ⟨hk.1.1.1, ⟨hk.1.1.2.1, ⟨hk.1.1.2.2.1, ⟨hk.1.1.2.2.2.1, hk.1.1.2.2.2.2⟩⟩⟩⟩)⟩, ⟨by (with_reducible repeat (first | apply Kd.R_alloc | apply Kd.R_drewN | apply Kd.R_drew)); exact Kd.R_mono HO_273002.out (fun _ hk => ⟨hk.1.1.1, ⟨hk.1.1.2.1, ⟨hk.1.1.2.2.1, ⟨hk.1.1.2.2.2.1, hk.1.1.2.2.2.2⟩⟩⟩⟩)⟩, ⟨by (with_reducible repeat (first | refine blk_drewN ?_ _ | refine blk_drew ?_ | refine blk_alloc ?_ _)); exact BK224.out⟩, ⟨by (with_reducible repeat (first | refine blk_drewN ?_ _ | refine blk_drew ?_ | refine blk_alloc ?_ _)); exact BK248.out⟩, ⟨by (with_reducible repeat (first | refine blk_drewN ?_ _ | refine blk_drew ?_ | refine blk_alloc ?_ _)); exact BK260.out⟩, ⟨by (with_reducible repeat (first | refine blk_drewN ?_ _ | refine blk_drew ?_ | refine blk_alloc ?_ _)); exact BK272.out⟩, ⟨by repeat (first | (with_reducible first | exact HB.out | apply below_alloc | apply pw_below_drewN | apply below_drew1 | refine below_set ?_ GE224.out | refine below_set ?_ GE248.out | refine below_set ?_ GE260.out | refine below_set ?_ GE272.out) | exact HB.out)⟩⟩
      ·
       replace c56 := Bool.eq_false_iff.mpr c56
       subst c56
       have H1 : (some false) = some r := by rw [if_neg (show ¬ (false = true) by decide)] at H; exact H
       clear H
       have H := H1
       clear H1
       obtain rfl := Option.some.inj H
       go_wp2
       go_ret
       exact ⟨by first | rfl | (simp [errW_none, errW_some] <;> rfl) | (simp [*, errW_none, errW_some] <;> rfl), by repeat (first | (with_reducible first | exact HB.out | apply below_alloc | apply pw_below_drewN | apply below_drew1 | refine below_set ?_ GE224.out | refine below_set ?_ GE248.out | refine below_set ?_ GE260.out | refine below_set ?_ GE272.out) | exact HB.out)⟩
     case rest =>
      clear HC49
      try clear c1
      try clear c2
      try clear p2
      try clear c3
      try clear c4
      try clear c5
      try clear c7
      try clear c7b0
      try clear c12
      try clear c22
      try clear c30
      try clear c31
      try clear c38
      try clear c39
      try clear c40
      try clear c46
      try clear c51
      try clear c53
      try clear c56
      try clear hcz14_0
      try clear hcz14_1
      try clear hcz14_2
      try clear hcz14_3
      try clear hcz14_4
      try clear hcz23_0
      try clear hcz23_1
      try clear hcz23_2
      try clear hcz23_3
      try clear hcz23_4
      try clear hcz26_0
      try clear hcz26_1
      try clear hcz26_2
      try clear hcz26_3
      try clear hcz26_4
      try clear hcz32_0
      try clear hcz32_1
      try clear hcz32_2
      try clear hcz32_3
      try clear hcz32_4
      try clear hcz41_0
      try clear hcz41_1
      try clear hcz41_2
      try clear hcz41_3
      try clear hcz41_4
      try clear hcz44_0
      try clear hcz44_1
      try clear hcz44_2
      try clear hcz44_3
      try clear hcz44_4
      try clear hcz5_0
      try clear hcz5_1
      try clear hcz5_2
      try clear hcz5_3
      try clear hcz5_4
      try clear hfz14_0
      try clear hfz14_1
      try clear hfz14_2
      try clear hfz14_3
      try clear hfz14_4
      try clear hfz23_0
      try clear hfz23_1
      try clear hfz23_2
      try clear hfz23_3
      try clear hfz23_4
      try clear hfz26_0
      try clear hfz26_1
      try clear hfz26_2
      try clear hfz26_3
      try clear hfz26_4
      try clear hfz32_0
      try clear hfz32_1
      try clear hfz32_2
      try clear hfz32_3
      try clear hfz32_4
      try clear hfz41_0
      try clear hfz41_1
      try clear hfz41_2
      try clear hfz41_3
      try clear hfz41_4
      try clear hfz44_0
      try clear hfz44_1
      try clear hfz44_2
      try clear hfz44_3
      try clear hfz44_4
      try clear hfz5_0
      try clear hfz5_1
      try clear hfz5_2
      try clear hfz5_3
      try clear hfz5_4
      try clear p2
      obtain ⟨kq, HA, HJ48, HO_249000, HO_249001, HO_249002, HO_261000, HO_261001, HO_261002, HO_273000, HO_273001, HO_273002, BK224, BK248, BK260, BK272, HB⟩ := hcut
      cases kq with
      | zero => exact absurd HA.out (by simp [laws_FnExactSpend.j2])
      | succ kj48 =>
       have H := HA.out
       clear HA
       simp only [laws_FnExactSpend.j2] at H
       replace H := Option.bind_eq_some_iff.mp H
       obtain ⟨⟨t286, t287, t288, t289⟩, A570, H⟩ := H
       replace H : (if t286 < 0 then (laws_FnExactSpend.j3 kj48 true l0_0 l0_1 l0_2 a0_3 a0_4 t237 t240 t243 t246 t247 t261 t264 t267 t270 t271) else ((laws_eqMemory.f kj48 t261 t264 t267 t270 t271 t237 t240 t243 t246 t247).bind fun t290 => (laws_FnExactSpend.j3 kj48 (!t290) l0_0 l0_1 l0_2 a0_3 a0_4 t237 t240 t243 t246 t247 t261 t264 t267 t270 t271))) = some r := H
       have A57 := Aside0.mk A570
       clear A570
       have HC58 := Aside0.mk H
       clear H
       have hnb59 := NB260_224.out
       have hnc59 := NB224_260.out
       have hnb60 := NB260_248.out
       have hnc60 := NB248_260.out
       have hnb61 := NB260_272.out
       have hnc61 := NB272_260.out
       have hcz62_0 : wc.cell? ⟨gb260, 0, none⟩ = some (.slice Ao29 t249.length co29) := (blk_cell BK260.out 0).trans rfl
       have hcz62_1 : wc.cell? ⟨gb260, 1, none⟩ = some (.slice Ao33 t252.length co33) := (blk_cell BK260.out 1).trans rfl
       have hcz62_2 : wc.cell? ⟨gb260, 2, none⟩ = some (.slice Ao34 t255.length co34) := (blk_cell BK260.out 2).trans rfl
       have hcz62_3 : wc.cell? ⟨gb260, 3, none⟩ = some (.int .i64 t258) := (blk_cell BK260.out 3).trans rfl
       have hcz62_4 : wc.cell? ⟨gb260, 4, none⟩ = some (.int .i64 t259) := (blk_cell BK260.out 4).trans rfl
       have hfz62_0 := blk_frozen BK260.out 0
       have hfz62_1 := blk_frozen BK260.out 1
       have hfz62_2 := blk_frozen BK260.out 2
       have hfz62_3 := blk_frozen BK260.out 3
       have hfz62_4 := blk_frozen BK260.out 4
       go_upto_region 14 with (first | ((with_reducible refine gate_callee (f := 43) rfl ?_); refine goesL_ (some 34) rfl rfl Try.func43 (by kernel_rfl) rfl #[.agg #[.slice Ao29 t249.length co29, .slice Ao33 t252.length co33, .slice Ao34 t255.length co34, .int .i64 t258, .int .i64 t259], .int .i64 1] rfl (by (try simp only [List.map_toArray, List.map_cons, List.map_nil]); first | done | rfl | (simp only [List.length_drop, List.length_take]; rfl)) ?_; (with_reducible refine (laws_markMemory.calls kj48 (fun k_ => some k_ = (.slice Ao29 t249.length co29 : Value).ownBlock) (.slice Ao29 t249.length co29) t249 (fun k_ => some k_ = (.slice Ao33 t252.length co33 : Value).ownBlock) (.slice Ao33 t252.length co33) t252 (fun k_ => some k_ = (.slice Ao34 t255.length co34 : Value).ownBlock) (.slice Ao34 t255.length co34) t255 t258 t259 1 t286 t287 t288 t289 w _ ?side1 ?side2 ?side3 ?side4 ?side5 ?side6 A57.out).mono ?_); (case side1 => repeat (first | (with_reducible first | exact HB.out | apply below_alloc | apply pw_below_drewN | apply below_drew1 | refine below_set ?_ GE224.out | refine below_set ?_ GE248.out | refine below_set ?_ GE260.out | refine below_set ?_ GE272.out) | exact HB.out)); (case side2 => exact Kd.R_tight rfl HO_261000.out); (case side3 => exact Kd.R_tight rfl HO_261001.out); (case side4 => exact fun k_ e_ => (HO_261001.out.1 k_ e_.symm).2.2.1); (case side5 => exact Kd.R_tight rfl HO_261002.out); (case side6 => exact fun k_ e_ => (HO_261002.out.1 k_ e_.symm).2.2.1); rintro e w63 ⟨rfl, hy0, hy1, hy2, hb, hkp⟩; refine ⟨_, rfl, ?_⟩; have n0_ := Aside0.mk (Kd.R_mono (ok' := fun k_ => some k_ ≠ (.slice Ao29 t249.length co29 : Value).ownBlock ∧ some k_ ≠ (.slice Ao37 t261.length co37 : Value).ownBlock) (Kd.R_keptB ((Kd.R_apart' (Kd.R_apart' HO_249000.out (Kd.R_typed HO_261001.out) (by decide)) (Kd.R_typed HO_261002.out) (by decide))) hkp (fun k_ hk_ hs_ => Or.elim hs_ (fun e_ => (hk_.1.1.1) e_) (fun e_ => Or.elim e_ (fun e_ => (hk_.1.2) e_) (fun e_ => (hk_.2) e_)))) (fun k_ hk_ => ⟨hk_.1.1.1.1, hk_.1.1.1.2⟩)); have n1_ := Aside0.mk (Kd.R_mono (ok' := fun k_ => some k_ ≠ (.slice Ao25 t243.length co25 : Value).ownBlock ∧ some k_ ≠ (.slice Ao33 t252.length co33 : Value).ownBlock ∧ some k_ ≠ (.slice Ao34 t255.length co34 : Value).ownBlock ∧ some k_ ≠ (.slice Ao42 t264.length co42 : Value).ownBlock ∧ some k_ ≠ (.slice Ao43 t267.length co43 : Value).ownBlock) (Kd.R_keptB ((Kd.R_apart' HO_249001.out (Kd.R_typed HO_261000.out) (by decide))) hkp (fun k_ hk_ hs_ => Or.elim hs_ (fun e_ => (hk_.2) e_) (fun e_ => Or.elim e_ (fun e_ => (hk_.1.2.1) e_) (fun e_ => (hk_.1.2.2.1) e_)))) (fun k_ hk_ => ⟨hk_.1.1.1, hk_.1.1.2.1, hk_.1.1.2.2.1, hk_.1.1.2.2.2.1, hk_.1.1.2.2.2.2⟩)); have n2_ := Aside0.mk (Kd.R_mono (ok' := fun k_ => some k_ ≠ (.slice Ao24 t240.length co24 : Value).ownBlock ∧ some k_ ≠ (.slice Ao33 t252.length co33 : Value).ownBlock ∧ some k_ ≠ (.slice Ao34 t255.length co34 : Value).ownBlock ∧ some k_ ≠ (.slice Ao42 t264.length co42 : Value).ownBlock ∧ some k_ ≠ (.slice Ao43 t267.length co43 : Value).ownBlock) (Kd.R_keptB ((Kd.R_apart' HO_249002.out (Kd.R_typed HO_261000.out) (by decide))) hkp (fun k_ hk_ hs_ => Or.elim hs_ (fun e_ => (hk_.2) e_) (fun e_ => Or.elim e_ (fun e_ => (hk_.1.2.1) e_) (fun e_ => (hk_.1.2.2.1) e_)))) (fun k_ hk_ => ⟨hk_.1.1.1, hk_.1.1.2.1, hk_.1.1.2.2.1, hk_.1.1.2.2.2.1, hk_.1.1.2.2.2.2⟩)); have n3_ := Aside0.mk (Kd.R_reok rfl hy0 (fun k_ e_ => HO_261000.out.1 k_ e_)); have n4_ := Aside0.mk (Kd.R_reok rfl hy1 (fun k_ e_ => HO_261001.out.1 k_ e_)); have n5_ := Aside0.mk (Kd.R_reok rfl hy2 (fun k_ e_ => HO_261002.out.1 k_ e_)); have n6_ := Aside0.mk (Kd.R_mono (ok' := fun k_ => some k_ ≠ (.slice Ao21 t237.length co21 : Value).ownBlock ∧ some k_ ≠ (.slice Ao29 t249.length co29 : Value).ownBlock) (Kd.R_keptB ((Kd.R_apart' (Kd.R_apart' HO_273000.out (Kd.R_typed HO_261001.out) (by decide)) (Kd.R_typed HO_261002.out) (by decide))) hkp (fun k_ hk_ hs_ => Or.elim hs_ (fun e_ => (hk_.1.1.2) e_) (fun e_ => Or.elim e_ (fun e_ => (hk_.1.2) e_) (fun e_ => (hk_.2) e_)))) (fun k_ hk_ => ⟨hk_.1.1.1.1, hk_.1.1.1.2⟩)); have n7_ := Aside0.mk (Kd.R_mono (ok' := fun k_ => some k_ ≠ (.slice Ao24 t240.length co24 : Value).ownBlock ∧ some k_ ≠ (.slice Ao25 t243.length co25 : Value).ownBlock ∧ some k_ ≠ (.slice Ao33 t252.length co33 : Value).ownBlock ∧ some k_ ≠ (.slice Ao34 t255.length co34 : Value).ownBlock ∧ some k_ ≠ (.slice Ao43 t267.length co43 : Value).ownBlock) (Kd.R_keptB ((Kd.R_apart' HO_273001.out (Kd.R_typed HO_261000.out) (by decide))) hkp (fun k_ hk_ hs_ => Or.elim hs_ (fun e_ => (hk_.2) e_) (fun e_ => Or.elim e_ (fun e_ => (hk_.1.2.2.1) e_) (fun e_ => (hk_.1.2.2.2.1) e_)))) (fun k_ hk_ => ⟨hk_.1.1.1, hk_.1.1.2.1, hk_.1.1.2.2.1, hk_.1.1.2.2.2.1, hk_.1.1.2.2.2.2⟩)); have n8_ := Aside0.mk (Kd.R_mono (ok' := fun k_ => some k_ ≠ (.slice Ao24 t240.length co24 : Value).ownBlock ∧ some k_ ≠ (.slice Ao25 t243.length co25 : Value).ownBlock ∧ some k_ ≠ (.slice Ao33 t252.length co33 : Value).ownBlock ∧ some k_ ≠ (.slice Ao34 t255.length co34 : Value).ownBlock ∧ some k_ ≠ (.slice Ao42 t264.length co42 : Value).ownBlock) (Kd.R_keptB ((Kd.R_apart' HO_273002.out (Kd.R_typed HO_261000.out) (by decide))) hkp (fun k_ hk_ hs_ => Or.elim hs_ (fun e_ => (hk_.2) e_) (fun e_ => Or.elim e_ (fun e_ => (hk_.1.2.2.1) e_) (fun e_ => (hk_.1.2.2.2.1) e_)))) (fun k_ hk_ => ⟨hk_.1.1.1, hk_.1.1.2.1, hk_.1.1.2.2.1, hk_.1.1.2.2.2.1, hk_.1.1.2.2.2.2⟩)); have n9_ := Aside0.mk (blk_kept (by (with_reducible repeat (first | refine blk_drewN ?_ _ | refine blk_drew ?_ | refine blk_alloc ?_ _)); exact BK224.out) hkp (fun hs_ => Or.elim hs_ (fun e_ => (fun e_ => (Kd.R_ne HO_261000.out BK224.out (by decide)) e_) e_) (fun e_ => Or.elim e_ (fun e_ => (fun e_ => (Kd.R_ne HO_261001.out BK224.out (by decide)) e_) e_) (fun e_ => (fun e_ => (Kd.R_ne HO_261002.out BK224.out (by decide)) e_) e_)))); have n10_ := Aside0.mk (blk_kept (by (with_reducible repeat (first | refine blk_drewN ?_ _ | refine blk_drew ?_ | refine blk_alloc ?_ _)); exact BK248.out) hkp (fun hs_ => Or.elim hs_ (fun e_ => (fun e_ => (Kd.R_ne HO_261000.out BK248.out (by decide)) e_) e_) (fun e_ => Or.elim e_ (fun e_ => (fun e_ => (Kd.R_ne HO_261001.out BK248.out (by decide)) e_) e_) (fun e_ => (fun e_ => (Kd.R_ne HO_261002.out BK248.out (by decide)) e_) e_)))); have n11_ := Aside0.mk (blk_kept (by (with_reducible repeat (first | refine blk_drewN ?_ _ | refine blk_drew ?_ | refine blk_alloc ?_ _)); exact BK260.out) hkp (fun hs_ => Or.elim hs_ (fun e_ => (fun e_ => (Kd.R_ne HO_261000.out BK260.out (by decide)) e_) e_) (fun e_ => Or.elim e_ (fun e_ => (fun e_ => (Kd.R_ne HO_261001.out BK260.out (by decide)) e_) e_) (fun e_ => (fun e_ => (Kd.R_ne HO_261002.out BK260.out (by decide)) e_) e_)))); have n12_ := Aside0.mk (blk_kept (by (with_reducible repeat (first | refine blk_drewN ?_ _ | refine blk_drew ?_ | refine blk_alloc ?_ _)); exact BK272.out) hkp (fun hs_ => Or.elim hs_ (fun e_ => (fun e_ => (Kd.R_ne HO_261000.out BK272.out (by decide)) e_) e_) (fun e_ => Or.elim e_ (fun e_ => (fun e_ => (Kd.R_ne HO_261001.out BK272.out (by decide)) e_) e_) (fun e_ => (fun e_ => (Kd.R_ne HO_261002.out BK272.out (by decide)) e_) e_)))); have n13_ := Aside0.mk (hb); clear HO_249000; clear HO_249001; clear HO_249002; clear HO_261000; clear HO_261001; clear HO_261002; clear HO_273000; clear HO_273001; clear HO_273002; clear BK224; clear BK248; clear BK260; clear BK272; clear HB; have HO_249000 := n0_; have HO_249001 := n1_; have HO_249002 := n2_; have HO_261000 := n3_; have HO_261001 := n4_; have HO_261002 := n5_; have HO_273000 := n6_; have HO_273001 := n7_; have HO_273002 := n8_; have BK224 := n9_; have BK248 := n10_; have BK260 := n11_; have BK272 := n12_; have HB := n13_; clear n0_ n1_ n2_ n3_ n4_ n5_ n6_ n7_ n8_ n9_ n10_ n11_ n12_ n13_; (try clear hb); (try clear hkp); (try clear hy0); (try clear hy1); (try clear hy2)))
       (try simp only [Act.put, List.setIfInBounds_toArray, List.set_cons_zero, List.set_cons_succ])
       go_cut [42] (fun v42 wc => ∃ (kq : Nat) (x42_57 : Bool), v42 = .bool x42_57 ∧ Aside0 (laws_FnExactSpend.j3 kq x42_57 l0_0 l0_1 l0_2 a0_3 a0_4 t237 t240 t243 t246 t247 t261 t264 t267 t270 t271 = some r) ∧ Aside0 (kq ≤ kj48) ∧ Aside0 (Kd.R k123 123 wc w.heap.size (fun k_ => some k_ ≠ ((.slice Ao29 t249.length co29) : Value).ownBlock ∧ some k_ ≠ ((.slice Ao37 t261.length co37) : Value).ownBlock) (.slice Ao21 t237.length co21) t237) ∧ Aside0 (Kd.R (Kd.int .i64) 3 wc w.heap.size (fun k_ => some k_ ≠ ((.slice Ao25 t243.length co25) : Value).ownBlock ∧ some k_ ≠ ((.slice Ao33 t252.length co33) : Value).ownBlock ∧ some k_ ≠ ((.slice Ao34 t255.length co34) : Value).ownBlock ∧ some k_ ≠ ((.slice Ao42 t264.length co42) : Value).ownBlock ∧ some k_ ≠ ((.slice Ao43 t267.length co43) : Value).ownBlock) (.slice Ao24 t240.length co24) t240) ∧ Aside0 (Kd.R (Kd.int .i64) 3 wc w.heap.size (fun k_ => some k_ ≠ ((.slice Ao24 t240.length co24) : Value).ownBlock ∧ some k_ ≠ ((.slice Ao33 t252.length co33) : Value).ownBlock ∧ some k_ ≠ ((.slice Ao34 t255.length co34) : Value).ownBlock ∧ some k_ ≠ ((.slice Ao42 t264.length co42) : Value).ownBlock ∧ some k_ ≠ ((.slice Ao43 t267.length co43) : Value).ownBlock) (.slice Ao25 t243.length co25) t243) ∧ Aside0 (Kd.R k123 123 wc w.heap.size (fun k_ => some k_ ≠ ((.slice Ao21 t237.length co21) : Value).ownBlock ∧ some k_ ≠ ((.slice Ao37 t261.length co37) : Value).ownBlock) (.slice Ao29 t249.length co29) t287) ∧ Aside0 (Kd.R (Kd.int .i64) 3 wc w.heap.size (fun k_ => some k_ ≠ ((.slice Ao24 t240.length co24) : Value).ownBlock ∧ some k_ ≠ ((.slice Ao25 t243.length co25) : Value).ownBlock ∧ some k_ ≠ ((.slice Ao34 t255.length co34) : Value).ownBlock ∧ some k_ ≠ ((.slice Ao42 t264.length co42) : Value).ownBlock ∧ some k_ ≠ ((.slice Ao43 t267.length co43) : Value).ownBlock) (.slice Ao33 t252.length co33) t288) ∧ Aside0 (Kd.R (Kd.int .i64) 3 wc w.heap.size (fun k_ => some k_ ≠ ((.slice Ao24 t240.length co24) : Value).ownBlock ∧ some k_ ≠ ((.slice Ao25 t243.length co25) : Value).ownBlock ∧ some k_ ≠ ((.slice Ao33 t252.length co33) : Value).ownBlock ∧ some k_ ≠ ((.slice Ao42 t264.length co42) : Value).ownBlock ∧ some k_ ≠ ((.slice Ao43 t267.length co43) : Value).ownBlock) (.slice Ao34 t255.length co34) t289) ∧ Aside0 (Kd.R k123 123 wc w.heap.size (fun k_ => some k_ ≠ ((.slice Ao21 t237.length co21) : Value).ownBlock ∧ some k_ ≠ ((.slice Ao29 t249.length co29) : Value).ownBlock) (.slice Ao37 t261.length co37) t261) ∧ Aside0 (Kd.R (Kd.int .i64) 3 wc w.heap.size (fun k_ => some k_ ≠ ((.slice Ao24 t240.length co24) : Value).ownBlock ∧ some k_ ≠ ((.slice Ao25 t243.length co25) : Value).ownBlock ∧ some k_ ≠ ((.slice Ao33 t252.length co33) : Value).ownBlock ∧ some k_ ≠ ((.slice Ao34 t255.length co34) : Value).ownBlock ∧ some k_ ≠ ((.slice Ao43 t267.length co43) : Value).ownBlock) (.slice Ao42 t264.length co42) t264) ∧ Aside0 (Kd.R (Kd.int .i64) 3 wc w.heap.size (fun k_ => some k_ ≠ ((.slice Ao24 t240.length co24) : Value).ownBlock ∧ some k_ ≠ ((.slice Ao25 t243.length co25) : Value).ownBlock ∧ some k_ ≠ ((.slice Ao33 t252.length co33) : Value).ownBlock ∧ some k_ ≠ ((.slice Ao34 t255.length co34) : Value).ownBlock ∧ some k_ ≠ ((.slice Ao42 t264.length co42) : Value).ownBlock) (.slice Ao43 t267.length co43) t267) ∧ Aside0 (wc.heap[gb224]? = some (.cells #[(.slice A0_0 l0_0.length c0_0), (.slice A0_1 l0_1.length c0_1), (.slice A0_2 l0_2.length c0_2), .int .i64 a0_3, .int .i64 a0_4] 77 (0, 0))) ∧ Aside0 (wc.heap[gb248]? = some (.cells #[(.slice Ao21 t237.length co21), (.slice Ao24 t240.length co24), (.slice Ao25 t243.length co25), .int .i64 t246, .int .i64 t247] 57 (0, 0))) ∧ Aside0 (wc.heap[gb260]? = some (.cells #[(.slice Ao29 t249.length co29), (.slice Ao33 t252.length co33), (.slice Ao34 t255.length co34), .int .i64 t258, .int .i64 t259] 57 (0, 0))) ∧ Aside0 (wc.heap[gb272]? = some (.cells #[(.slice Ao37 t261.length co37), (.slice Ao42 t264.length co42), (.slice Ao43 t267.length co43), .int .i64 t270, .int .i64 t271] 57 (0, 0))) ∧ Aside0 (Below w.heap.size w wc))
       case first =>
        have H := HC58.out
        clear HC58
        by_cases c64 : t286 < 0
        ·
         rw [if_pos c64] at H
         have c64b0 : decide (t286 < 0) = true := decide_eq_true c64
         clear c64
         (first | rw [c64b0] | (simp only [i64_w, i32_w]; rw [c64b0]) | skip)
         have H' := Aside0.mk H
         clear H
         go_wp2
         go_meet
         case rel => exact ⟨_, (true), (by first | rfl | (simp; done) | (simp [*]; done)), H', ⟨by have := HJ2.out; have := HJ12.out; have := HJ48.out; first | omega | exact Nat.le_refl _⟩, ⟨by (with_reducible repeat (first | apply Kd.R_alloc | apply Kd.R_drewN | apply Kd.R_drew)); exact HO_249000.out⟩, ⟨by (with_reducible repeat (first | apply Kd.R_alloc | apply Kd.R_drewN | apply Kd.R_drew)); exact HO_249001.out⟩, ⟨by (with_reducible repeat (first | apply Kd.R_alloc | apply Kd.R_drewN | apply Kd.R_drew)); exact HO_249002.out⟩, ⟨by (with_reducible repeat (first | apply Kd.R_alloc | apply Kd.R_drewN | apply Kd.R_drew)); exact HO_261000.out⟩, ⟨by (with_reducible repeat (first | apply Kd.R_alloc | apply Kd.R_drewN | apply Kd.R_drew)); exact HO_261001.out⟩, ⟨by (with_reducible repeat (first | apply Kd.R_alloc | apply Kd.R_drewN | apply Kd.R_drew)); exact HO_261002.out⟩, ⟨by (with_reducible repeat (first | apply Kd.R_alloc | apply Kd.R_drewN | apply Kd.R_drew)); exact HO_273000.out⟩, ⟨by (with_reducible repeat (first | apply Kd.R_alloc | apply Kd.R_drewN | apply Kd.R_drew)); exact HO_273001.out⟩, ⟨by (with_reducible repeat (first | apply Kd.R_alloc | apply Kd.R_drewN | apply Kd.R_drew)); exact HO_273002.out⟩, ⟨by (with_reducible repeat (first | refine blk_drewN ?_ _ | refine blk_drew ?_ | refine blk_alloc ?_ _)); exact BK224.out⟩, ⟨by (with_reducible repeat (first | refine blk_drewN ?_ _ | refine blk_drew ?_ | refine blk_alloc ?_ _)); exact BK248.out⟩, ⟨by (with_reducible repeat (first | refine blk_drewN ?_ _ | refine blk_drew ?_ | refine blk_alloc ?_ _)); exact BK260.out⟩, ⟨by (with_reducible repeat (first | refine blk_drewN ?_ _ | refine blk_drew ?_ | refine blk_alloc ?_ _)); exact BK272.out⟩, ⟨by repeat (first | (with_reducible first | exact HB.out | apply below_alloc | apply pw_below_drewN | apply below_drew1 | refine below_set ?_ GE224.out | refine below_set ?_ GE248.out | refine below_set ?_ GE260.out | refine below_set ?_ GE272.out) | exact HB.out)⟩⟩
        ·
         rw [if_neg c64] at H
         have c64b0 : decide (t286 < 0) = false := decide_eq_false c64
         clear c64
         (first | rw [c64b0] | (simp only [i64_w, i32_w]; rw [c64b0]) | skip)
         replace H := Option.bind_eq_some_iff.mp H
         obtain ⟨t290, A650, H⟩ := H
         replace H : (laws_FnExactSpend.j3 kj48 (!t290) l0_0 l0_1 l0_2 a0_3 a0_4 t237 t240 t243 t246 t247 t261 t264 t267 t270 t271) = some r := H
         have A65 := Aside0.mk A650
         clear A650
         have H' := Aside0.mk H
         clear H
         have hnb66 := NB272_224.out
         have hnc66 := NB224_272.out
         have hnb67 := NB272_248.out
         have hnc67 := NB248_272.out
         have hnb68 := NB272_260.out
         have hnc68 := NB260_272.out
         have hcz69_0 : w63.cell? ⟨gb272, 0, none⟩ = some (.slice Ao37 t261.length co37) := (blk_cell BK272.out 0).trans rfl
         have hcz69_1 : w63.cell? ⟨gb272, 1, none⟩ = some (.slice Ao42 t264.length co42) := (blk_cell BK272.out 1).trans rfl
         have hcz69_2 : w63.cell? ⟨gb272, 2, none⟩ = some (.slice Ao43 t267.length co43) := (blk_cell BK272.out 2).trans rfl
         have hcz69_3 : w63.cell? ⟨gb272, 3, none⟩ = some (.int .i64 t270) := (blk_cell BK272.out 3).trans rfl
         have hcz69_4 : w63.cell? ⟨gb272, 4, none⟩ = some (.int .i64 t271) := (blk_cell BK272.out 4).trans rfl
         have hfz69_0 := blk_frozen BK272.out 0
         have hfz69_1 := blk_frozen BK272.out 1
         have hfz69_2 := blk_frozen BK272.out 2
         have hfz69_3 := blk_frozen BK272.out 3
         have hfz69_4 := blk_frozen BK272.out 4
         have hnb70 := NB248_224.out
         have hnc70 := NB224_248.out
         have hnb71 := NB248_260.out
         have hnc71 := NB260_248.out
         have hcz72_0 : w63.cell? ⟨gb248, 0, none⟩ = some (.slice Ao21 t237.length co21) := (blk_cell BK248.out 0).trans rfl
         have hcz72_1 : w63.cell? ⟨gb248, 1, none⟩ = some (.slice Ao24 t240.length co24) := (blk_cell BK248.out 1).trans rfl
         have hcz72_2 : w63.cell? ⟨gb248, 2, none⟩ = some (.slice Ao25 t243.length co25) := (blk_cell BK248.out 2).trans rfl
         have hcz72_3 : w63.cell? ⟨gb248, 3, none⟩ = some (.int .i64 t246) := (blk_cell BK248.out 3).trans rfl
         have hcz72_4 : w63.cell? ⟨gb248, 4, none⟩ = some (.int .i64 t247) := (blk_cell BK248.out 4).trans rfl
         have hfz72_0 := blk_frozen BK248.out 0
         have hfz72_1 := blk_frozen BK248.out 1
         have hfz72_2 := blk_frozen BK248.out 2
         have hfz72_3 := blk_frozen BK248.out 3
         have hfz72_4 := blk_frozen BK248.out 4
         go_wp2_with (first | (go_at_call 40; (with_reducible refine (laws_eqMemory.calls kj48 _ _ t261 _ _ t264 _ _ t267 t270 t271 _ _ t237 _ _ t240 _ _ t243 t246 t247 t290 _ ?side1 ?side2 ?side3 ?side4 ?side5 ?side6 ?side7 ?side8 ?side9 ?side10 ?side11 ?side12 A65.out).mono ?_); (case side1 => repeat (first | exact (Kd.R_reads' HO_273000.out).2.2 | (with_reducible refine Kd.C_alloc ?_ _) | (with_reducible refine Kd.C_drewN ?_ _) | (with_reducible refine Kd.C_drew ?_))); (case side2 => exact (Kd.R_reads' HO_273000.out).2.1); (case side3 => repeat (first | exact (Kd.R_reads' HO_273001.out).2.2 | (with_reducible refine Kd.C_alloc ?_ _) | (with_reducible refine Kd.C_drewN ?_ _) | (with_reducible refine Kd.C_drew ?_))); (case side4 => exact (Kd.R_reads' HO_273001.out).2.1); (case side5 => repeat (first | exact (Kd.R_reads' HO_273002.out).2.2 | (with_reducible refine Kd.C_alloc ?_ _) | (with_reducible refine Kd.C_drewN ?_ _) | (with_reducible refine Kd.C_drew ?_))); (case side6 => exact (Kd.R_reads' HO_273002.out).2.1); (case side7 => repeat (first | exact (Kd.R_reads' HO_249000.out).2.2 | (with_reducible refine Kd.C_alloc ?_ _) | (with_reducible refine Kd.C_drewN ?_ _) | (with_reducible refine Kd.C_drew ?_))); (case side8 => exact (Kd.R_reads' HO_249000.out).2.1); (case side9 => repeat (first | exact (Kd.R_reads' HO_249001.out).2.2 | (with_reducible refine Kd.C_alloc ?_ _) | (with_reducible refine Kd.C_drewN ?_ _) | (with_reducible refine Kd.C_drew ?_))); (case side10 => exact (Kd.R_reads' HO_249001.out).2.1); (case side11 => repeat (first | exact (Kd.R_reads' HO_249002.out).2.2 | (with_reducible refine Kd.C_alloc ?_ _) | (with_reducible refine Kd.C_drewN ?_ _) | (with_reducible refine Kd.C_drew ?_))); (case side12 => exact (Kd.R_reads' HO_249002.out).2.1); rintro e w73 ⟨rfl, hb⟩; have n0_ := Aside0.mk (Kd.R_below (by (with_reducible repeat (first | apply Kd.R_alloc | apply Kd.R_drewN | apply Kd.R_drew)); exact HO_249000.out) hb); have n1_ := Aside0.mk (Kd.R_below (by (with_reducible repeat (first | apply Kd.R_alloc | apply Kd.R_drewN | apply Kd.R_drew)); exact HO_249001.out) hb); have n2_ := Aside0.mk (Kd.R_below (by (with_reducible repeat (first | apply Kd.R_alloc | apply Kd.R_drewN | apply Kd.R_drew)); exact HO_249002.out) hb); have n3_ := Aside0.mk (Kd.R_below (by (with_reducible repeat (first | apply Kd.R_alloc | apply Kd.R_drewN | apply Kd.R_drew)); exact HO_261000.out) hb); have n4_ := Aside0.mk (Kd.R_below (by (with_reducible repeat (first | apply Kd.R_alloc | apply Kd.R_drewN | apply Kd.R_drew)); exact HO_261001.out) hb); have n5_ := Aside0.mk (Kd.R_below (by (with_reducible repeat (first | apply Kd.R_alloc | apply Kd.R_drewN | apply Kd.R_drew)); exact HO_261002.out) hb); have n6_ := Aside0.mk (Kd.R_below (by (with_reducible repeat (first | apply Kd.R_alloc | apply Kd.R_drewN | apply Kd.R_drew)); exact HO_273000.out) hb); have n7_ := Aside0.mk (Kd.R_below (by (with_reducible repeat (first | apply Kd.R_alloc | apply Kd.R_drewN | apply Kd.R_drew)); exact HO_273001.out) hb); have n8_ := Aside0.mk (Kd.R_below (by (with_reducible repeat (first | apply Kd.R_alloc | apply Kd.R_drewN | apply Kd.R_drew)); exact HO_273002.out) hb); have n9_ := Aside0.mk (blk_below (g := gb224) (o := .cells #[.slice A0_0 l0_0.length c0_0, .slice A0_1 l0_1.length c0_1, .slice A0_2 l0_2.length c0_2, .int .i64 a0_3, .int .i64 a0_4] 77 (0, 0)) (by (with_reducible repeat (first | refine blk_drewN ?_ _ | refine blk_drew ?_ | refine blk_alloc ?_ _)); exact BK224.out) hb); have n10_ := Aside0.mk (blk_below (g := gb248) (o := .cells #[.slice Ao21 t237.length co21, .slice Ao24 t240.length co24, .slice Ao25 t243.length co25, .int .i64 t246, .int .i64 t247] 57 (0, 0)) (by (with_reducible repeat (first | refine blk_drewN ?_ _ | refine blk_drew ?_ | refine blk_alloc ?_ _)); exact BK248.out) hb); have n11_ := Aside0.mk (blk_below (g := gb260) (o := .cells #[.slice Ao29 t249.length co29, .slice Ao33 t252.length co33, .slice Ao34 t255.length co34, .int .i64 t258, .int .i64 t259] 57 (0, 0)) (by (with_reducible repeat (first | refine blk_drewN ?_ _ | refine blk_drew ?_ | refine blk_alloc ?_ _)); exact BK260.out) hb); have n12_ := Aside0.mk (blk_below (g := gb272) (o := .cells #[.slice Ao37 t261.length co37, .slice Ao42 t264.length co42, .slice Ao43 t267.length co43, .int .i64 t270, .int .i64 t271] 57 (0, 0)) (by (with_reducible repeat (first | refine blk_drewN ?_ _ | refine blk_drew ?_ | refine blk_alloc ?_ _)); exact BK272.out) hb); have n13_ := Aside0.mk (below_step (by repeat (first | (with_reducible first | exact HB.out | apply below_alloc | apply pw_below_drewN | apply below_drew1 | refine below_set ?_ GE224.out | refine below_set ?_ GE248.out | refine below_set ?_ GE260.out | refine below_set ?_ GE272.out) | exact HB.out)) hb); clear HO_249000; clear HO_249001; clear HO_249002; clear HO_261000; clear HO_261001; clear HO_261002; clear HO_273000; clear HO_273001; clear HO_273002; clear BK224; clear BK248; clear BK260; clear BK272; clear HB; have HO_249000 := n0_; have HO_249001 := n1_; have HO_249002 := n2_; have HO_261000 := n3_; have HO_261001 := n4_; have HO_261002 := n5_; have HO_273000 := n6_; have HO_273001 := n7_; have HO_273002 := n8_; have BK224 := n9_; have BK248 := n10_; have BK260 := n11_; have BK272 := n12_; have HB := n13_; clear n0_ n1_ n2_ n3_ n4_ n5_ n6_ n7_ n8_ n9_ n10_ n11_ n12_ n13_; (try clear hb); (try clear hb2); (try clear hk); (try clear hi)))
         go_meet
         case rel => exact ⟨_, (!t290), (by first | rfl | (simp; done) | (simp [*]; done)), H', ⟨by have := HJ2.out; have := HJ12.out; have := HJ48.out; first | omega | exact Nat.le_refl _⟩, ⟨by (with_reducible repeat (first | apply Kd.R_alloc | apply Kd.R_drewN | apply Kd.R_drew)); exact HO_249000.out⟩, ⟨by (with_reducible repeat (first | apply Kd.R_alloc | apply Kd.R_drewN | apply Kd.R_drew)); exact HO_249001.out⟩, ⟨by (with_reducible repeat (first | apply Kd.R_alloc | apply Kd.R_drewN | apply Kd.R_drew)); exact HO_249002.out⟩, ⟨by (with_reducible repeat (first | apply Kd.R_alloc | apply Kd.R_drewN | apply Kd.R_drew)); exact HO_261000.out⟩, ⟨by (with_reducible repeat (first | apply Kd.R_alloc | apply Kd.R_drewN | apply Kd.R_drew)); exact HO_261001.out⟩, ⟨by (with_reducible repeat (first | apply Kd.R_alloc | apply Kd.R_drewN | apply Kd.R_drew)); exact HO_261002.out⟩, ⟨by (with_reducible repeat (first | apply Kd.R_alloc | apply Kd.R_drewN | apply Kd.R_drew)); exact HO_273000.out⟩, ⟨by (with_reducible repeat (first | apply Kd.R_alloc | apply Kd.R_drewN | apply Kd.R_drew)); exact HO_273001.out⟩, ⟨by (with_reducible repeat (first | apply Kd.R_alloc | apply Kd.R_drewN | apply Kd.R_drew)); exact HO_273002.out⟩, ⟨by (with_reducible repeat (first | refine blk_drewN ?_ _ | refine blk_drew ?_ | refine blk_alloc ?_ _)); exact BK224.out⟩, ⟨by (with_reducible repeat (first | refine blk_drewN ?_ _ | refine blk_drew ?_ | refine blk_alloc ?_ _)); exact BK248.out⟩, ⟨by (with_reducible repeat (first | refine blk_drewN ?_ _ | refine blk_drew ?_ | refine blk_alloc ?_ _)); exact BK260.out⟩, ⟨by (with_reducible repeat (first | refine blk_drewN ?_ _ | refine blk_drew ?_ | refine blk_alloc ?_ _)); exact BK272.out⟩, ⟨by repeat (first | (with_reducible first | exact HB.out | apply below_alloc | apply pw_below_drewN | apply below_drew1 | refine below_set ?_ GE224.out | refine below_set ?_ GE248.out | refine below_set ?_ GE260.out | refine below_set ?_ GE272.out) | exact HB.out)⟩⟩
       case rest =>
        clear HC58
        try clear c1
        try clear c2
        try clear p2
        try clear c3
        try clear c4
        try clear c5
        try clear c6
        try clear c7
        try clear c7b0
        try clear c12
        try clear c22
        try clear c30
        try clear c31
        try clear c38
        try clear c39
        try clear c40
        try clear c43
        try clear c46
        try clear c51
        try clear c53
        try clear c56
        try clear c57
        try clear c58
        try clear c59
        try clear c60
        try clear c61
        try clear c64
        try clear c64b0
        try clear c66
        try clear c67
        try clear c68
        try clear c70
        try clear c71
        try clear hcz14_0
        try clear hcz14_1
        try clear hcz14_2
        try clear hcz14_3
        try clear hcz14_4
        try clear hcz23_0
        try clear hcz23_1
        try clear hcz23_2
        try clear hcz23_3
        try clear hcz23_4
        try clear hcz26_0
        try clear hcz26_1
        try clear hcz26_2
        try clear hcz26_3
        try clear hcz26_4
        try clear hcz32_0
        try clear hcz32_1
        try clear hcz32_2
        try clear hcz32_3
        try clear hcz32_4
        try clear hcz41_0
        try clear hcz41_1
        try clear hcz41_2
        try clear hcz41_3
        try clear hcz41_4
        try clear hcz44_0
        try clear hcz44_1
        try clear hcz44_2
        try clear hcz44_3
        try clear hcz44_4
        try clear hcz5_0
        try clear hcz5_1
        try clear hcz5_2
        try clear hcz5_3
        try clear hcz5_4
        try clear hcz62_0
        try clear hcz62_1
        try clear hcz62_2
        try clear hcz62_3
        try clear hcz62_4
        try clear hcz69_0
        try clear hcz69_1
        try clear hcz69_2
        try clear hcz69_3
        try clear hcz69_4
        try clear hcz72_0
        try clear hcz72_1
        try clear hcz72_2
        try clear hcz72_3
        try clear hcz72_4
        try clear hfz14_0
        try clear hfz14_1
        try clear hfz14_2
        try clear hfz14_3
        try clear hfz14_4
        try clear hfz23_0
        try clear hfz23_1
        try clear hfz23_2
        try clear hfz23_3
        try clear hfz23_4
        try clear hfz26_0
        try clear hfz26_1
        try clear hfz26_2
        try clear hfz26_3
        try clear hfz26_4
        try clear hfz32_0
        try clear hfz32_1
        try clear hfz32_2
        try clear hfz32_3
        try clear hfz32_4
        try clear hfz41_0
        try clear hfz41_1
        try clear hfz41_2
        try clear hfz41_3
        try clear hfz41_4
        try clear hfz44_0
        try clear hfz44_1
        try clear hfz44_2
        try clear hfz44_3
        try clear hfz44_4
        try clear hfz5_0
        try clear hfz5_1
        try clear hfz5_2
        try clear hfz5_3
        try clear hfz5_4
        try clear hfz62_0
        try clear hfz62_1
        try clear hfz62_2
        try clear hfz62_3
        try clear hfz62_4
        try clear hfz69_0
        try clear hfz69_1
        try clear hfz69_2
        try clear hfz69_3
        try clear hfz69_4
        try clear hfz72_0
        try clear hfz72_1
        try clear hfz72_2
        try clear hfz72_3
        try clear hfz72_4
        try clear p2
        obtain ⟨kq, x42_57, rfl, HA, HJ57, HO_249000, HO_249001, HO_249002, HO_261000, HO_261001, HO_261002, HO_273000, HO_273001, HO_273002, BK224, BK248, BK260, BK272, HB⟩ := hcut
        have hl261000_57 := (Kd.R_reads' HO_261000.out).1
        rw [hl261000_57] at HO_261000
        (try simp only [hl261000_57])
        (try simp only [hl261000_57] at BK224)
        (try simp only [hl261000_57] at BK248)
        (try simp only [hl261000_57] at BK260)
        (try simp only [hl261000_57] at BK272)
        (try simp only [hl261000_57] at HO_249000)
        (try simp only [hl261000_57] at HO_249001)
        (try simp only [hl261000_57] at HO_249002)
        (try simp only [hl261000_57] at HO_261001)
        (try simp only [hl261000_57] at HO_261002)
        (try simp only [hl261000_57] at HO_273000)
        (try simp only [hl261000_57] at HO_273001)
        (try simp only [hl261000_57] at HO_273002)
        have hl261001_57 := (Kd.R_reads' HO_261001.out).1
        rw [hl261001_57] at HO_261001
        (try simp only [hl261001_57])
        (try simp only [hl261001_57] at BK224)
        (try simp only [hl261001_57] at BK248)
        (try simp only [hl261001_57] at BK260)
        (try simp only [hl261001_57] at BK272)
        (try simp only [hl261001_57] at HO_249000)
        (try simp only [hl261001_57] at HO_249001)
        (try simp only [hl261001_57] at HO_249002)
        (try simp only [hl261001_57] at HO_261000)
        (try simp only [hl261001_57] at HO_261002)
        (try simp only [hl261001_57] at HO_273000)
        (try simp only [hl261001_57] at HO_273001)
        (try simp only [hl261001_57] at HO_273002)
        have hl261002_57 := (Kd.R_reads' HO_261002.out).1
        rw [hl261002_57] at HO_261002
        (try simp only [hl261002_57])
        (try simp only [hl261002_57] at BK224)
        (try simp only [hl261002_57] at BK248)
        (try simp only [hl261002_57] at BK260)
        (try simp only [hl261002_57] at BK272)
        (try simp only [hl261002_57] at HO_249000)
        (try simp only [hl261002_57] at HO_249001)
        (try simp only [hl261002_57] at HO_249002)
        (try simp only [hl261002_57] at HO_261000)
        (try simp only [hl261002_57] at HO_261001)
        (try simp only [hl261002_57] at HO_273000)
        (try simp only [hl261002_57] at HO_273001)
        (try simp only [hl261002_57] at HO_273002)
        cases kq with
        | zero => exact absurd HA.out (by simp [laws_FnExactSpend.j3])
        | succ kj57 =>
         have H := HA.out
         clear HA
         simp only [laws_FnExactSpend.j3] at H
         have HC74 := Aside0.mk H
         clear H
         go_upto_if 42 with (fail)
         go_cut [] (fun wc => ∃ (kq : Nat), Aside0 (laws_FnExactSpend.j4 kq l0_0 l0_1 l0_2 a0_3 a0_4 t237 t240 t243 t246 t247 t261 t264 t267 t270 t271 = some r) ∧ Aside0 (kq ≤ kj57) ∧ Aside0 (Kd.R k123 123 wc w.heap.size (fun k_ => some k_ ≠ ((.slice Ao29 t287.length co29) : Value).ownBlock ∧ some k_ ≠ ((.slice Ao37 t261.length co37) : Value).ownBlock) (.slice Ao21 t237.length co21) t237) ∧ Aside0 (Kd.R (Kd.int .i64) 3 wc w.heap.size (fun k_ => some k_ ≠ ((.slice Ao25 t243.length co25) : Value).ownBlock ∧ some k_ ≠ ((.slice Ao33 t288.length co33) : Value).ownBlock ∧ some k_ ≠ ((.slice Ao34 t289.length co34) : Value).ownBlock ∧ some k_ ≠ ((.slice Ao42 t264.length co42) : Value).ownBlock ∧ some k_ ≠ ((.slice Ao43 t267.length co43) : Value).ownBlock) (.slice Ao24 t240.length co24) t240) ∧ Aside0 (Kd.R (Kd.int .i64) 3 wc w.heap.size (fun k_ => some k_ ≠ ((.slice Ao24 t240.length co24) : Value).ownBlock ∧ some k_ ≠ ((.slice Ao33 t288.length co33) : Value).ownBlock ∧ some k_ ≠ ((.slice Ao34 t289.length co34) : Value).ownBlock ∧ some k_ ≠ ((.slice Ao42 t264.length co42) : Value).ownBlock ∧ some k_ ≠ ((.slice Ao43 t267.length co43) : Value).ownBlock) (.slice Ao25 t243.length co25) t243) ∧ Aside0 (Kd.R k123 123 wc w.heap.size (fun k_ => some k_ ≠ ((.slice Ao21 t237.length co21) : Value).ownBlock ∧ some k_ ≠ ((.slice Ao37 t261.length co37) : Value).ownBlock) (.slice Ao29 t287.length co29) t287) ∧ Aside0 (Kd.R (Kd.int .i64) 3 wc w.heap.size (fun k_ => some k_ ≠ ((.slice Ao24 t240.length co24) : Value).ownBlock ∧ some k_ ≠ ((.slice Ao25 t243.length co25) : Value).ownBlock ∧ some k_ ≠ ((.slice Ao34 t289.length co34) : Value).ownBlock ∧ some k_ ≠ ((.slice Ao42 t264.length co42) : Value).ownBlock ∧ some k_ ≠ ((.slice Ao43 t267.length co43) : Value).ownBlock) (.slice Ao33 t288.length co33) t288) ∧ Aside0 (Kd.R (Kd.int .i64) 3 wc w.heap.size (fun k_ => some k_ ≠ ((.slice Ao24 t240.length co24) : Value).ownBlock ∧ some k_ ≠ ((.slice Ao25 t243.length co25) : Value).ownBlock ∧ some k_ ≠ ((.slice Ao33 t288.length co33) : Value).ownBlock ∧ some k_ ≠ ((.slice Ao42 t264.length co42) : Value).ownBlock ∧ some k_ ≠ ((.slice Ao43 t267.length co43) : Value).ownBlock) (.slice Ao34 t289.length co34) t289) ∧ Aside0 (Kd.R k123 123 wc w.heap.size (fun k_ => some k_ ≠ ((.slice Ao21 t237.length co21) : Value).ownBlock ∧ some k_ ≠ ((.slice Ao29 t287.length co29) : Value).ownBlock) (.slice Ao37 t261.length co37) t261) ∧ Aside0 (Kd.R (Kd.int .i64) 3 wc w.heap.size (fun k_ => some k_ ≠ ((.slice Ao24 t240.length co24) : Value).ownBlock ∧ some k_ ≠ ((.slice Ao25 t243.length co25) : Value).ownBlock ∧ some k_ ≠ ((.slice Ao33 t288.length co33) : Value).ownBlock ∧ some k_ ≠ ((.slice Ao34 t289.length co34) : Value).ownBlock ∧ some k_ ≠ ((.slice Ao43 t267.length co43) : Value).ownBlock) (.slice Ao42 t264.length co42) t264) ∧ Aside0 (Kd.R (Kd.int .i64) 3 wc w.heap.size (fun k_ => some k_ ≠ ((.slice Ao24 t240.length co24) : Value).ownBlock ∧ some k_ ≠ ((.slice Ao25 t243.length co25) : Value).ownBlock ∧ some k_ ≠ ((.slice Ao33 t288.length co33) : Value).ownBlock ∧ some k_ ≠ ((.slice Ao34 t289.length co34) : Value).ownBlock ∧ some k_ ≠ ((.slice Ao42 t264.length co42) : Value).ownBlock) (.slice Ao43 t267.length co43) t267) ∧ Aside0 (wc.heap[gb224]? = some (.cells #[(.slice A0_0 l0_0.length c0_0), (.slice A0_1 l0_1.length c0_1), (.slice A0_2 l0_2.length c0_2), .int .i64 a0_3, .int .i64 a0_4] 77 (0, 0))) ∧ Aside0 (wc.heap[gb248]? = some (.cells #[(.slice Ao21 t237.length co21), (.slice Ao24 t240.length co24), (.slice Ao25 t243.length co25), .int .i64 t246, .int .i64 t247] 57 (0, 0))) ∧ Aside0 (wc.heap[gb260]? = some (.cells #[(.slice Ao29 t287.length co29), (.slice Ao33 t288.length co33), (.slice Ao34 t289.length co34), .int .i64 t258, .int .i64 t259] 57 (0, 0))) ∧ Aside0 (wc.heap[gb272]? = some (.cells #[(.slice Ao37 t261.length co37), (.slice Ao42 t264.length co42), (.slice Ao43 t267.length co43), .int .i64 t270, .int .i64 t271] 57 (0, 0))) ∧ Aside0 (Below w.heap.size w wc))
         case first =>
          have H := HC74.out
          clear HC74
          by_cases c75 : x42_57 = true
          ·
           subst c75
           have H1 : (some false) = some r := by rw [if_pos rfl] at H; exact H
           clear H
           have H := H1
           clear H1
           obtain rfl := Option.some.inj H
           go_wp2
           go_ret
           exact ⟨by first | rfl | (simp [errW_none, errW_some] <;> rfl) | (simp [*, errW_none, errW_some] <;> rfl), by repeat (first | (with_reducible first | exact HB.out | apply below_alloc | apply pw_below_drewN | apply below_drew1 | refine below_set ?_ GE224.out | refine below_set ?_ GE248.out | refine below_set ?_ GE260.out | refine below_set ?_ GE272.out) | exact HB.out)⟩
          ·
           replace c75 := Bool.eq_false_iff.mpr c75
           subst c75
           have H1 : (laws_FnExactSpend.j4 kj57 l0_0 l0_1 l0_2 a0_3 a0_4 t237 t240 t243 t246 t247 t261 t264 t267 t270 t271) = some r := by rw [if_neg (show ¬ (false = true) by decide)] at H; exact H
           clear H
           have H := H1
           clear H1
           have H' := Aside0.mk H
           clear H
           go_wp2
           go_meet
           case rel => exact ⟨_, H', ⟨by have := HJ2.out; have := HJ12.out; have := HJ48.out; have := HJ57.out; first | omega | exact Nat.le_refl _⟩, ⟨by (try simp only [hl261000_57]); (try simp only [hl261001_57]); (try simp only [hl261002_57]); (with_reducible repeat (first | apply Kd.R_alloc | apply Kd.R_drewN | apply Kd.R_drew)); exact HO_249000.out⟩, ⟨by (try simp only [hl261000_57]); (try simp only [hl261001_57]); (try simp only [hl261002_57]); (with_reducible repeat (first | apply Kd.R_alloc | apply Kd.R_drewN | apply Kd.R_drew)); exact HO_249001.out⟩, ⟨by (try simp only [hl261000_57]); (try simp only [hl261001_57]); (try simp only [hl261002_57]); (with_reducible repeat (first | apply Kd.R_alloc | apply Kd.R_drewN | apply Kd.R_drew)); exact HO_249002.out⟩, ⟨by (try simp only [hl261000_57]); (try simp only [hl261001_57]); (try simp only [hl261002_57]); (with_reducible repeat (first | apply Kd.R_alloc | apply Kd.R_drewN | apply Kd.R_drew)); exact HO_261000.out⟩, ⟨by (try simp only [hl261000_57]); (try simp only [hl261001_57]); (try simp only [hl261002_57]); (with_reducible repeat (first | apply Kd.R_alloc | apply Kd.R_drewN | apply Kd.R_drew)); exact HO_261001.out⟩, ⟨by (try simp only [hl261000_57]); (try simp only [hl261001_57]); (try simp only [hl261002_57]); (with_reducible repeat (first | apply Kd.R_alloc | apply Kd.R_drewN | apply Kd.R_drew)); exact HO_261002.out⟩, ⟨by (try simp only [hl261000_57]); (try simp only [hl261001_57]); (try simp only [hl261002_57]); (with_reducible repeat (first | apply Kd.R_alloc | apply Kd.R_drewN | apply Kd.R_drew)); exact HO_273000.out⟩, ⟨by (try simp only [hl261000_57]); (try simp only [hl261001_57]); (try simp only [hl261002_57]); (with_reducible repeat (first | apply Kd.R_alloc | apply Kd.R_drewN | apply Kd.R_drew)); exact HO_273001.out⟩, ⟨by (try simp only [hl261000_57]); (try simp only [hl261001_57]); (try simp only [hl261002_57]); (with_reducible repeat (first | apply Kd.R_alloc | apply Kd.R_drewN | apply Kd.R_drew)); exact HO_273002.out⟩, ⟨by (try simp only [hl261000_57]); (try simp only [hl261001_57]); (try simp only [hl261002_57]); (with_reducible repeat (first | refine blk_drewN ?_ _ | refine blk_drew ?_ | refine blk_alloc ?_ _)); exact BK224.out⟩, ⟨by (try simp only [hl261000_57]); (try simp only [hl261001_57]); (try simp only [hl261002_57]); (with_reducible repeat (first | refine blk_drewN ?_ _ | refine blk_drew ?_ | refine blk_alloc ?_ _)); exact BK248.out⟩, ⟨by (try simp only [hl261000_57]); (try simp only [hl261001_57]); (try simp only [hl261002_57]); (with_reducible repeat (first | refine blk_drewN ?_ _ | refine blk_drew ?_ | refine blk_alloc ?_ _)); exact BK260.out⟩, ⟨by (try simp only [hl261000_57]); (try simp only [hl261001_57]); (try simp only [hl261002_57]); (with_reducible repeat (first | refine blk_drewN ?_ _ | refine blk_drew ?_ | refine blk_alloc ?_ _)); exact BK272.out⟩, ⟨by repeat (first | (with_reducible first | exact HB.out | apply below_alloc | apply pw_below_drewN | apply below_drew1 | refine below_set ?_ GE224.out | refine below_set ?_ GE248.out | refine below_set ?_ GE260.out | refine below_set ?_ GE272.out) | exact HB.out)⟩⟩
         case rest =>
          clear HC74
          try clear c1
          try clear c2
          try clear p2
          try clear c3
          try clear c4
          try clear c5
          try clear c6
          try clear c7
          try clear c7b0
          try clear c12
          try clear c22
          try clear c30
          try clear c31
          try clear c38
          try clear c39
          try clear c40
          try clear c43
          try clear c46
          try clear c51
          try clear c53
          try clear c56
          try clear c57
          try clear c58
          try clear c59
          try clear c60
          try clear c61
          try clear c64
          try clear c64b0
          try clear c66
          try clear c67
          try clear c68
          try clear c70
          try clear c71
          try clear c75
          try clear hcz14_0
          try clear hcz14_1
          try clear hcz14_2
          try clear hcz14_3
          try clear hcz14_4
          try clear hcz23_0
          try clear hcz23_1
          try clear hcz23_2
          try clear hcz23_3
          try clear hcz23_4
          try clear hcz26_0
          try clear hcz26_1
          try clear hcz26_2
          try clear hcz26_3
          try clear hcz26_4
          try clear hcz32_0
          try clear hcz32_1
          try clear hcz32_2
          try clear hcz32_3
          try clear hcz32_4
          try clear hcz41_0
          try clear hcz41_1
          try clear hcz41_2
          try clear hcz41_3
          try clear hcz41_4
          try clear hcz44_0
          try clear hcz44_1
          try clear hcz44_2
          try clear hcz44_3
          try clear hcz44_4
          try clear hcz5_0
          try clear hcz5_1
          try clear hcz5_2
          try clear hcz5_3
          try clear hcz5_4
          try clear hcz62_0
          try clear hcz62_1
          try clear hcz62_2
          try clear hcz62_3
          try clear hcz62_4
          try clear hcz69_0
          try clear hcz69_1
          try clear hcz69_2
          try clear hcz69_3
          try clear hcz69_4
          try clear hcz72_0
          try clear hcz72_1
          try clear hcz72_2
          try clear hcz72_3
          try clear hcz72_4
          try clear hfz14_0
          try clear hfz14_1
          try clear hfz14_2
          try clear hfz14_3
          try clear hfz14_4
          try clear hfz23_0
          try clear hfz23_1
          try clear hfz23_2
          try clear hfz23_3
          try clear hfz23_4
          try clear hfz26_0
          try clear hfz26_1
          try clear hfz26_2
          try clear hfz26_3
          try clear hfz26_4
          try clear hfz32_0
          try clear hfz32_1
          try clear hfz32_2
          try clear hfz32_3
          try clear hfz32_4
          try clear hfz41_0
          try clear hfz41_1
          try clear hfz41_2
          try clear hfz41_3
          try clear hfz41_4
          try clear hfz44_0
          try clear hfz44_1
          try clear hfz44_2
          try clear hfz44_3
          try clear hfz44_4
          try clear hfz5_0
          try clear hfz5_1
          try clear hfz5_2
          try clear hfz5_3
          try clear hfz5_4
          try clear hfz62_0
          try clear hfz62_1
          try clear hfz62_2
          try clear hfz62_3
          try clear hfz62_4
          try clear hfz69_0
          try clear hfz69_1
          try clear hfz69_2
          try clear hfz69_3
          try clear hfz69_4
          try clear hfz72_0
          try clear hfz72_1
          try clear hfz72_2
          try clear hfz72_3
          try clear hfz72_4
          try clear p2
          obtain ⟨kq, HA, HJ73, HO_249000, HO_249001, HO_249002, HO_261000, HO_261001, HO_261002, HO_273000, HO_273001, HO_273002, BK224, BK248, BK260, BK272, HB⟩ := hcut
          cases kq with
          | zero => exact absurd HA.out (by simp [laws_FnExactSpend.j4])
          | succ kj73 =>
           have H := HA.out
           clear HA
           simp only [laws_FnExactSpend.j4] at H
           replace H := Option.bind_eq_some_iff.mp H
           obtain ⟨⟨t291, t292, t293, t294⟩, A760, H⟩ := H
           replace H : ((laws_heldMemory.f kj73 t292 t293 t294 t270 t271 1).bind fun t295 => (if t295 < 0 then (some false) else (laws_FnExactSpend.j5 kj73 t291 t295 l0_0 l0_1 l0_2 a0_3 a0_4 t237 t240 t243 t246 t247 t292 t293 t294 t270 t271))) = some r := H
           have A76 := Aside0.mk A760
           clear A760
           replace H := Option.bind_eq_some_iff.mp H
           obtain ⟨t295, A770, H⟩ := H
           replace H : (if t295 < 0 then (some false) else (laws_FnExactSpend.j5 kj73 t291 t295 l0_0 l0_1 l0_2 a0_3 a0_4 t237 t240 t243 t246 t247 t292 t293 t294 t270 t271)) = some r := H
           have A77 := Aside0.mk A770
           clear A770
           have HC78 := Aside0.mk H
           clear H
           have hnb79 := NB272_224.out
           have hnc79 := NB224_272.out
           have hnb80 := NB272_248.out
           have hnc80 := NB248_272.out
           have hnb81 := NB272_260.out
           have hnc81 := NB260_272.out
           have hcz82_0 : wc.cell? ⟨gb272, 0, none⟩ = some (.slice Ao37 t261.length co37) := (blk_cell BK272.out 0).trans rfl
           have hcz82_1 : wc.cell? ⟨gb272, 1, none⟩ = some (.slice Ao42 t264.length co42) := (blk_cell BK272.out 1).trans rfl
           have hcz82_2 : wc.cell? ⟨gb272, 2, none⟩ = some (.slice Ao43 t267.length co43) := (blk_cell BK272.out 2).trans rfl
           have hcz82_3 : wc.cell? ⟨gb272, 3, none⟩ = some (.int .i64 t270) := (blk_cell BK272.out 3).trans rfl
           have hcz82_4 : wc.cell? ⟨gb272, 4, none⟩ = some (.int .i64 t271) := (blk_cell BK272.out 4).trans rfl
           have hfz82_0 := blk_frozen BK272.out 0
           have hfz82_1 := blk_frozen BK272.out 1
           have hfz82_2 := blk_frozen BK272.out 2
           have hfz82_3 := blk_frozen BK272.out 3
           have hfz82_4 := blk_frozen BK272.out 4
           go_upto_if 50 with (first | ((with_reducible refine gate_callee (f := 43) rfl ?_); refine goesL_ (some 45) rfl rfl Try.func43 (by kernel_rfl) rfl #[.agg #[.slice Ao37 t261.length co37, .slice Ao42 t264.length co42, .slice Ao43 t267.length co43, .int .i64 t270, .int .i64 t271], .int .i64 1] rfl (by (try simp only [List.map_toArray, List.map_cons, List.map_nil]); first | done | rfl | (simp only [List.length_drop, List.length_take]; rfl)) ?_; (with_reducible refine (laws_markMemory.calls kj73 (fun k_ => some k_ = (.slice Ao37 t261.length co37 : Value).ownBlock) (.slice Ao37 t261.length co37) t261 (fun k_ => some k_ = (.slice Ao42 t264.length co42 : Value).ownBlock) (.slice Ao42 t264.length co42) t264 (fun k_ => some k_ = (.slice Ao43 t267.length co43 : Value).ownBlock) (.slice Ao43 t267.length co43) t267 t270 t271 1 t291 t292 t293 t294 w _ ?side1 ?side2 ?side3 ?side4 ?side5 ?side6 A76.out).mono ?_); (case side1 => repeat (first | (with_reducible first | exact HB.out | apply below_alloc | apply pw_below_drewN | apply below_drew1 | refine below_set ?_ GE224.out | refine below_set ?_ GE248.out | refine below_set ?_ GE260.out | refine below_set ?_ GE272.out) | exact HB.out)); (case side2 => exact Kd.R_tight rfl HO_273000.out); (case side3 => exact Kd.R_tight rfl HO_273001.out); (case side4 => exact fun k_ e_ => (HO_273001.out.1 k_ e_.symm).2.2.2.2); (case side5 => exact Kd.R_tight rfl HO_273002.out); (case side6 => exact fun k_ e_ => (HO_273002.out.1 k_ e_.symm).2.2.2.2); rintro e w83 ⟨rfl, hy0, hy1, hy2, hb, hkp⟩; refine ⟨_, rfl, ?_⟩; have n0_ := Aside0.mk (Kd.R_mono (ok' := fun k_ => some k_ ≠ (.slice Ao29 t287.length co29 : Value).ownBlock ∧ some k_ ≠ (.slice Ao37 t261.length co37 : Value).ownBlock) (Kd.R_keptB ((Kd.R_apart' (Kd.R_apart' HO_249000.out (Kd.R_typed HO_273001.out) (by decide)) (Kd.R_typed HO_273002.out) (by decide))) hkp (fun k_ hk_ hs_ => Or.elim hs_ (fun e_ => (hk_.1.1.2) e_) (fun e_ => Or.elim e_ (fun e_ => (hk_.1.2) e_) (fun e_ => (hk_.2) e_)))) (fun k_ hk_ => ⟨hk_.1.1.1.1, hk_.1.1.1.2⟩)); have n1_ := Aside0.mk (Kd.R_mono (ok' := fun k_ => some k_ ≠ (.slice Ao25 t243.length co25 : Value).ownBlock ∧ some k_ ≠ (.slice Ao33 t288.length co33 : Value).ownBlock ∧ some k_ ≠ (.slice Ao34 t289.length co34 : Value).ownBlock ∧ some k_ ≠ (.slice Ao42 t264.length co42 : Value).ownBlock ∧ some k_ ≠ (.slice Ao43 t267.length co43 : Value).ownBlock) (Kd.R_keptB ((Kd.R_apart' HO_249001.out (Kd.R_typed HO_273000.out) (by decide))) hkp (fun k_ hk_ hs_ => Or.elim hs_ (fun e_ => (hk_.2) e_) (fun e_ => Or.elim e_ (fun e_ => (hk_.1.2.2.2.1) e_) (fun e_ => (hk_.1.2.2.2.2) e_)))) (fun k_ hk_ => ⟨hk_.1.1.1, hk_.1.1.2.1, hk_.1.1.2.2.1, hk_.1.1.2.2.2.1, hk_.1.1.2.2.2.2⟩)); have n2_ := Aside0.mk (Kd.R_mono (ok' := fun k_ => some k_ ≠ (.slice Ao24 t240.length co24 : Value).ownBlock ∧ some k_ ≠ (.slice Ao33 t288.length co33 : Value).ownBlock ∧ some k_ ≠ (.slice Ao34 t289.length co34 : Value).ownBlock ∧ some k_ ≠ (.slice Ao42 t264.length co42 : Value).ownBlock ∧ some k_ ≠ (.slice Ao43 t267.length co43 : Value).ownBlock) (Kd.R_keptB ((Kd.R_apart' HO_249002.out (Kd.R_typed HO_273000.out) (by decide))) hkp (fun k_ hk_ hs_ => Or.elim hs_ (fun e_ => (hk_.2) e_) (fun e_ => Or.elim e_ (fun e_ => (hk_.1.2.2.2.1) e_) (fun e_ => (hk_.1.2.2.2.2) e_)))) (fun k_ hk_ => ⟨hk_.1.1.1, hk_.1.1.2.1, hk_.1.1.2.2.1, hk_.1.1.2.2.2.1, hk_.1.1.2.2.2.2⟩)); have n3_ := Aside0.mk (Kd.R_mono (ok' := fun k_ => some k_ ≠ (.slice Ao21 t237.length co21 : Value).ownBlock ∧ some k_ ≠ (.slice Ao37 t261.length co37 : Value).ownBlock) (Kd.R_keptB ((Kd.R_apart' (Kd.R_apart' HO_261000.out (Kd.R_typed HO_273001.out) (by decide)) (Kd.R_typed HO_273002.out) (by decide))) hkp (fun k_ hk_ hs_ => Or.elim hs_ (fun e_ => (hk_.1.1.2) e_) (fun e_ => Or.elim e_ (fun e_ => (hk_.1.2) e_) (fun e_ => (hk_.2) e_)))) (fun k_ hk_ => ⟨hk_.1.1.1.1, hk_.1.1.1.2⟩)); have n4_ := Aside0.mk (Kd.R_mono (ok' := fun k_ => some k_ ≠ (.slice Ao24 t240.length co24 : Value).ownBlock ∧ some k_ ≠ (.slice Ao25 t243.length co25 : Value).ownBlock ∧ some k_ ≠ (.slice Ao34 t289.length co34 : Value).ownBlock ∧ some k_ ≠ (.slice Ao42 t264.length co42 : Value).ownBlock ∧ some k_ ≠ (.slice Ao43 t267.length co43 : Value).ownBlock) (Kd.R_keptB ((Kd.R_apart' HO_261001.out (Kd.R_typed HO_273000.out) (by decide))) hkp (fun k_ hk_ hs_ => Or.elim hs_ (fun e_ => (hk_.2) e_) (fun e_ => Or.elim e_ (fun e_ => (hk_.1.2.2.2.1) e_) (fun e_ => (hk_.1.2.2.2.2) e_)))) (fun k_ hk_ => ⟨hk_.1.1.1, hk_.1.1.2.1, hk_.1.1.2.2.1, hk_.1.1.2.2.2.1, hk_.1.1.2.2.2.2⟩)); have n5_ := Aside0.mk (Kd.R_mono (ok' := fun k_ => some k_ ≠ (.slice Ao24 t240.length co24 : Value).ownBlock ∧ some k_ ≠ (.slice Ao25 t243.length co25 : Value).ownBlock ∧ some k_ ≠ (.slice Ao33 t288.length co33 : Value).ownBlock ∧ some k_ ≠ (.slice Ao42 t264.length co42 : Value).ownBlock ∧ some k_ ≠ (.slice Ao43 t267.length co43 : Value).ownBlock) (Kd.R_keptB ((Kd.R_apart' HO_261002.out (Kd.R_typed HO_273000.out) (by decide))) hkp (fun k_ hk_ hs_ => Or.elim hs_ (fun e_ => (hk_.2) e_) (fun e_ => Or.elim e_ (fun e_ => (hk_.1.2.2.2.1) e_) (fun e_ => (hk_.1.2.2.2.2) e_)))) (fun k_ hk_ => ⟨hk_.1.1.1, hk_.1.1.2.1, hk_.1.1.2.2.1, hk_.1.1.2.2.2.1, hk_.1.1.2.2.2.2⟩)); have n6_ := Aside0.mk (Kd.R_reok rfl hy0 (fun k_ e_ => HO_273000.out.1 k_ e_)); have n7_ := Aside0.mk (Kd.R_reok rfl hy1 (fun k_ e_ => HO_273001.out.1 k_ e_)); have n8_ := Aside0.mk (Kd.R_reok rfl hy2 (fun k_ e_ => HO_273002.out.1 k_ e_)); have n9_ := Aside0.mk (blk_kept (by (with_reducible repeat (first | refine blk_drewN ?_ _ | refine blk_drew ?_ | refine blk_alloc ?_ _)); exact BK224.out) hkp (fun hs_ => Or.elim hs_ (fun e_ => (fun e_ => (Kd.R_ne HO_273000.out BK224.out (by decide)) e_) e_) (fun e_ => Or.elim e_ (fun e_ => (fun e_ => (Kd.R_ne HO_273001.out BK224.out (by decide)) e_) e_) (fun e_ => (fun e_ => (Kd.R_ne HO_273002.out BK224.out (by decide)) e_) e_)))); have n10_ := Aside0.mk (blk_kept (by (with_reducible repeat (first | refine blk_drewN ?_ _ | refine blk_drew ?_ | refine blk_alloc ?_ _)); exact BK248.out) hkp (fun hs_ => Or.elim hs_ (fun e_ => (fun e_ => (Kd.R_ne HO_273000.out BK248.out (by decide)) e_) e_) (fun e_ => Or.elim e_ (fun e_ => (fun e_ => (Kd.R_ne HO_273001.out BK248.out (by decide)) e_) e_) (fun e_ => (fun e_ => (Kd.R_ne HO_273002.out BK248.out (by decide)) e_) e_)))); have n11_ := Aside0.mk (blk_kept (by (with_reducible repeat (first | refine blk_drewN ?_ _ | refine blk_drew ?_ | refine blk_alloc ?_ _)); exact BK260.out) hkp (fun hs_ => Or.elim hs_ (fun e_ => (fun e_ => (Kd.R_ne HO_273000.out BK260.out (by decide)) e_) e_) (fun e_ => Or.elim e_ (fun e_ => (fun e_ => (Kd.R_ne HO_273001.out BK260.out (by decide)) e_) e_) (fun e_ => (fun e_ => (Kd.R_ne HO_273002.out BK260.out (by decide)) e_) e_)))); have n12_ := Aside0.mk (blk_kept (by (with_reducible repeat (first | refine blk_drewN ?_ _ | refine blk_drew ?_ | refine blk_alloc ?_ _)); exact BK272.out) hkp (fun hs_ => Or.elim hs_ (fun e_ => (fun e_ => (Kd.R_ne HO_273000.out BK272.out (by decide)) e_) e_) (fun e_ => Or.elim e_ (fun e_ => (fun e_ => (Kd.R_ne HO_273001.out BK272.out (by decide)) e_) e_) (fun e_ => (fun e_ => (Kd.R_ne HO_273002.out BK272.out (by decide)) e_) e_)))); have n13_ := Aside0.mk (hb); clear HO_249000; clear HO_249001; clear HO_249002; clear HO_261000; clear HO_261001; clear HO_261002; clear HO_273000; clear HO_273001; clear HO_273002; clear BK224; clear BK248; clear BK260; clear BK272; clear HB; have HO_249000 := n0_; have HO_249001 := n1_; have HO_249002 := n2_; have HO_261000 := n3_; have HO_261001 := n4_; have HO_261002 := n5_; have HO_273000 := n6_; have HO_273001 := n7_; have HO_273002 := n8_; have BK224 := n9_; have BK248 := n10_; have BK260 := n11_; have BK272 := n12_; have HB := n13_; clear n0_ n1_ n2_ n3_ n4_ n5_ n6_ n7_ n8_ n9_ n10_ n11_ n12_ n13_; (try clear hb); (try clear hkp); (try clear hy0); (try clear hy1); (try clear hy2); have hcz84_0 : w83.cell? ⟨gb272, 0, none⟩ = some (.slice Ao37 t261.length co37) := (blk_cell BK272.out 0).trans rfl; have hcz84_1 : w83.cell? ⟨gb272, 1, none⟩ = some (.slice Ao42 t264.length co42) := (blk_cell BK272.out 1).trans rfl; have hcz84_2 : w83.cell? ⟨gb272, 2, none⟩ = some (.slice Ao43 t267.length co43) := (blk_cell BK272.out 2).trans rfl; have hcz84_3 : w83.cell? ⟨gb272, 3, none⟩ = some (.int .i64 t270) := (blk_cell BK272.out 3).trans rfl; have hcz84_4 : w83.cell? ⟨gb272, 4, none⟩ = some (.int .i64 t271) := (blk_cell BK272.out 4).trans rfl; have hfz84_0 := blk_frozen BK272.out 0; have hfz84_1 := blk_frozen BK272.out 1; have hfz84_2 := blk_frozen BK272.out 2; have hfz84_3 := blk_frozen BK272.out 3; have hfz84_4 := blk_frozen BK272.out 4) | ((with_reducible refine gate_callee (f := 44) rfl ?_); refine goesL_ (some 48) rfl rfl Try.func44 (by kernel_rfl) rfl #[.agg #[.slice Ao37 t292.length co37, .slice Ao42 t293.length co42, .slice Ao43 t294.length co43, .int .i64 t270, .int .i64 t271], .int .i64 1] rfl (by (try simp only [List.map_toArray, List.map_cons, List.map_nil]); first | done | (rw [show t292.length = t261.length from (Kd.R_reads' HO_273000.out).1.symm, show t293.length = t264.length from (Kd.R_reads' HO_273001.out).1.symm, show t294.length = t267.length from (Kd.R_reads' HO_273002.out).1.symm] <;> rfl) | rfl | (simp only [List.length_drop, List.length_take]; rfl)) ?_; (with_reducible refine (laws_heldMemory.calls kj73 _ _ t292 _ _ t293 _ _ t294 t270 t271 1 t295 _ ?side1 ?side2 ?side3 ?side4 ?side5 ?side6 A77.out).mono ?_); (case side1 => repeat (first | exact (Kd.R_reads' HO_273000.out).2.2 | (with_reducible refine Kd.C_alloc ?_ _) | (with_reducible refine Kd.C_drewN ?_ _) | (with_reducible refine Kd.C_drew ?_))); (case side2 => rw [show t292.length = t261.length from (Kd.R_reads' HO_273000.out).1.symm]; exact (Kd.R_reads' HO_273000.out).2.1); (case side3 => repeat (first | exact (Kd.R_reads' HO_273001.out).2.2 | (with_reducible refine Kd.C_alloc ?_ _) | (with_reducible refine Kd.C_drewN ?_ _) | (with_reducible refine Kd.C_drew ?_))); (case side4 => rw [show t293.length = t264.length from (Kd.R_reads' HO_273001.out).1.symm]; exact (Kd.R_reads' HO_273001.out).2.1); (case side5 => repeat (first | exact (Kd.R_reads' HO_273002.out).2.2 | (with_reducible refine Kd.C_alloc ?_ _) | (with_reducible refine Kd.C_drewN ?_ _) | (with_reducible refine Kd.C_drew ?_))); (case side6 => rw [show t294.length = t267.length from (Kd.R_reads' HO_273002.out).1.symm]; exact (Kd.R_reads' HO_273002.out).2.1); rintro e w85 ⟨rfl, hb⟩; refine ⟨_, rfl, ?_⟩; have n0_ := Aside0.mk (Kd.R_below (by (with_reducible repeat (first | apply Kd.R_alloc | apply Kd.R_drewN | apply Kd.R_drew)); exact HO_249000.out) hb); have n1_ := Aside0.mk (Kd.R_below (by (with_reducible repeat (first | apply Kd.R_alloc | apply Kd.R_drewN | apply Kd.R_drew)); exact HO_249001.out) hb); have n2_ := Aside0.mk (Kd.R_below (by (with_reducible repeat (first | apply Kd.R_alloc | apply Kd.R_drewN | apply Kd.R_drew)); exact HO_249002.out) hb); have n3_ := Aside0.mk (Kd.R_below (by (with_reducible repeat (first | apply Kd.R_alloc | apply Kd.R_drewN | apply Kd.R_drew)); exact HO_261000.out) hb); have n4_ := Aside0.mk (Kd.R_below (by (with_reducible repeat (first | apply Kd.R_alloc | apply Kd.R_drewN | apply Kd.R_drew)); exact HO_261001.out) hb); have n5_ := Aside0.mk (Kd.R_below (by (with_reducible repeat (first | apply Kd.R_alloc | apply Kd.R_drewN | apply Kd.R_drew)); exact HO_261002.out) hb); have n6_ := Aside0.mk (Kd.R_below (by (with_reducible repeat (first | apply Kd.R_alloc | apply Kd.R_drewN | apply Kd.R_drew)); exact HO_273000.out) hb); have n7_ := Aside0.mk (Kd.R_below (by (with_reducible repeat (first | apply Kd.R_alloc | apply Kd.R_drewN | apply Kd.R_drew)); exact HO_273001.out) hb); have n8_ := Aside0.mk (Kd.R_below (by (with_reducible repeat (first | apply Kd.R_alloc | apply Kd.R_drewN | apply Kd.R_drew)); exact HO_273002.out) hb); have n9_ := Aside0.mk (blk_below (g := gb224) (o := .cells #[.slice A0_0 l0_0.length c0_0, .slice A0_1 l0_1.length c0_1, .slice A0_2 l0_2.length c0_2, .int .i64 a0_3, .int .i64 a0_4] 77 (0, 0)) (by (with_reducible repeat (first | refine blk_drewN ?_ _ | refine blk_drew ?_ | refine blk_alloc ?_ _)); exact BK224.out) hb); have n10_ := Aside0.mk (blk_below (g := gb248) (o := .cells #[.slice Ao21 t237.length co21, .slice Ao24 t240.length co24, .slice Ao25 t243.length co25, .int .i64 t246, .int .i64 t247] 57 (0, 0)) (by (with_reducible repeat (first | refine blk_drewN ?_ _ | refine blk_drew ?_ | refine blk_alloc ?_ _)); exact BK248.out) hb); have n11_ := Aside0.mk (blk_below (g := gb260) (o := .cells #[.slice Ao29 t287.length co29, .slice Ao33 t288.length co33, .slice Ao34 t289.length co34, .int .i64 t258, .int .i64 t259] 57 (0, 0)) (by (with_reducible repeat (first | refine blk_drewN ?_ _ | refine blk_drew ?_ | refine blk_alloc ?_ _)); exact BK260.out) hb); have n12_ := Aside0.mk (blk_below (g := gb272) (o := .cells #[.slice Ao37 t261.length co37, .slice Ao42 t264.length co42, .slice Ao43 t267.length co43, .int .i64 t270, .int .i64 t271] 57 (0, 0)) (by (with_reducible repeat (first | refine blk_drewN ?_ _ | refine blk_drew ?_ | refine blk_alloc ?_ _)); exact BK272.out) hb); have n13_ := Aside0.mk (below_step (by repeat (first | (with_reducible first | exact HB.out | apply below_alloc | apply pw_below_drewN | apply below_drew1 | refine below_set ?_ GE224.out | refine below_set ?_ GE248.out | refine below_set ?_ GE260.out | refine below_set ?_ GE272.out) | exact HB.out)) hb); clear HO_249000; clear HO_249001; clear HO_249002; clear HO_261000; clear HO_261001; clear HO_261002; clear HO_273000; clear HO_273001; clear HO_273002; clear BK224; clear BK248; clear BK260; clear BK272; clear HB; have HO_249000 := n0_; have HO_249001 := n1_; have HO_249002 := n2_; have HO_261000 := n3_; have HO_261001 := n4_; have HO_261002 := n5_; have HO_273000 := n6_; have HO_273001 := n7_; have HO_273002 := n8_; have BK224 := n9_; have BK248 := n10_; have BK260 := n11_; have BK272 := n12_; have HB := n13_; clear n0_ n1_ n2_ n3_ n4_ n5_ n6_ n7_ n8_ n9_ n10_ n11_ n12_ n13_; (try clear hb); (try clear hb2); (try clear hk); (try clear hi)))
           (try simp only [Act.put, List.setIfInBounds_toArray, List.set_cons_zero, List.set_cons_succ])
           go_cut [] (fun wc => ∃ (kq : Nat), Aside0 (laws_FnExactSpend.j5 kq t291 t295 l0_0 l0_1 l0_2 a0_3 a0_4 t237 t240 t243 t246 t247 t292 t293 t294 t270 t271 = some r) ∧ Aside0 (kq ≤ kj73) ∧ Aside0 (Kd.R k123 123 wc w.heap.size (fun k_ => some k_ ≠ ((.slice Ao29 t287.length co29) : Value).ownBlock ∧ some k_ ≠ ((.slice Ao37 t261.length co37) : Value).ownBlock) (.slice Ao21 t237.length co21) t237) ∧ Aside0 (Kd.R (Kd.int .i64) 3 wc w.heap.size (fun k_ => some k_ ≠ ((.slice Ao25 t243.length co25) : Value).ownBlock ∧ some k_ ≠ ((.slice Ao33 t288.length co33) : Value).ownBlock ∧ some k_ ≠ ((.slice Ao34 t289.length co34) : Value).ownBlock ∧ some k_ ≠ ((.slice Ao42 t264.length co42) : Value).ownBlock ∧ some k_ ≠ ((.slice Ao43 t267.length co43) : Value).ownBlock) (.slice Ao24 t240.length co24) t240) ∧ Aside0 (Kd.R (Kd.int .i64) 3 wc w.heap.size (fun k_ => some k_ ≠ ((.slice Ao24 t240.length co24) : Value).ownBlock ∧ some k_ ≠ ((.slice Ao33 t288.length co33) : Value).ownBlock ∧ some k_ ≠ ((.slice Ao34 t289.length co34) : Value).ownBlock ∧ some k_ ≠ ((.slice Ao42 t264.length co42) : Value).ownBlock ∧ some k_ ≠ ((.slice Ao43 t267.length co43) : Value).ownBlock) (.slice Ao25 t243.length co25) t243) ∧ Aside0 (Kd.R k123 123 wc w.heap.size (fun k_ => some k_ ≠ ((.slice Ao21 t237.length co21) : Value).ownBlock ∧ some k_ ≠ ((.slice Ao37 t261.length co37) : Value).ownBlock) (.slice Ao29 t287.length co29) t287) ∧ Aside0 (Kd.R (Kd.int .i64) 3 wc w.heap.size (fun k_ => some k_ ≠ ((.slice Ao24 t240.length co24) : Value).ownBlock ∧ some k_ ≠ ((.slice Ao25 t243.length co25) : Value).ownBlock ∧ some k_ ≠ ((.slice Ao34 t289.length co34) : Value).ownBlock ∧ some k_ ≠ ((.slice Ao42 t264.length co42) : Value).ownBlock ∧ some k_ ≠ ((.slice Ao43 t267.length co43) : Value).ownBlock) (.slice Ao33 t288.length co33) t288) ∧ Aside0 (Kd.R (Kd.int .i64) 3 wc w.heap.size (fun k_ => some k_ ≠ ((.slice Ao24 t240.length co24) : Value).ownBlock ∧ some k_ ≠ ((.slice Ao25 t243.length co25) : Value).ownBlock ∧ some k_ ≠ ((.slice Ao33 t288.length co33) : Value).ownBlock ∧ some k_ ≠ ((.slice Ao42 t264.length co42) : Value).ownBlock ∧ some k_ ≠ ((.slice Ao43 t267.length co43) : Value).ownBlock) (.slice Ao34 t289.length co34) t289) ∧ Aside0 (Kd.R k123 123 wc w.heap.size (fun k_ => some k_ ≠ ((.slice Ao21 t237.length co21) : Value).ownBlock ∧ some k_ ≠ ((.slice Ao29 t287.length co29) : Value).ownBlock) (.slice Ao37 t261.length co37) t292) ∧ Aside0 (Kd.R (Kd.int .i64) 3 wc w.heap.size (fun k_ => some k_ ≠ ((.slice Ao24 t240.length co24) : Value).ownBlock ∧ some k_ ≠ ((.slice Ao25 t243.length co25) : Value).ownBlock ∧ some k_ ≠ ((.slice Ao33 t288.length co33) : Value).ownBlock ∧ some k_ ≠ ((.slice Ao34 t289.length co34) : Value).ownBlock ∧ some k_ ≠ ((.slice Ao43 t267.length co43) : Value).ownBlock) (.slice Ao42 t264.length co42) t293) ∧ Aside0 (Kd.R (Kd.int .i64) 3 wc w.heap.size (fun k_ => some k_ ≠ ((.slice Ao24 t240.length co24) : Value).ownBlock ∧ some k_ ≠ ((.slice Ao25 t243.length co25) : Value).ownBlock ∧ some k_ ≠ ((.slice Ao33 t288.length co33) : Value).ownBlock ∧ some k_ ≠ ((.slice Ao34 t289.length co34) : Value).ownBlock ∧ some k_ ≠ ((.slice Ao42 t264.length co42) : Value).ownBlock) (.slice Ao43 t267.length co43) t294) ∧ Aside0 (wc.heap[gb224]? = some (.cells #[(.slice A0_0 l0_0.length c0_0), (.slice A0_1 l0_1.length c0_1), (.slice A0_2 l0_2.length c0_2), .int .i64 a0_3, .int .i64 a0_4] 77 (0, 0))) ∧ Aside0 (wc.heap[gb248]? = some (.cells #[(.slice Ao21 t237.length co21), (.slice Ao24 t240.length co24), (.slice Ao25 t243.length co25), .int .i64 t246, .int .i64 t247] 57 (0, 0))) ∧ Aside0 (wc.heap[gb260]? = some (.cells #[(.slice Ao29 t287.length co29), (.slice Ao33 t288.length co33), (.slice Ao34 t289.length co34), .int .i64 t258, .int .i64 t259] 57 (0, 0))) ∧ Aside0 (wc.heap[gb272]? = some (.cells #[(.slice Ao37 t261.length co37), (.slice Ao42 t264.length co42), (.slice Ao43 t267.length co43), .int .i64 t270, .int .i64 t271] 57 (0, 0))) ∧ Aside0 (Below w.heap.size w wc))
           case first =>
            have H := HC78.out
            clear HC78
            by_cases c86 : t295 < 0
            ·
             rw [if_pos c86] at H
             have c86b0 : decide (t295 < 0) = true := decide_eq_true c86
             clear c86
             (first | rw [c86b0] | (simp only [i64_w, i32_w]; rw [c86b0]) | skip)
             obtain rfl := Option.some.inj H
             go_wp2
             go_ret
             exact ⟨by first | rfl | (simp [errW_none, errW_some] <;> rfl) | (simp [*, errW_none, errW_some] <;> rfl), by repeat (first | (with_reducible first | exact HB.out | apply below_alloc | apply pw_below_drewN | apply below_drew1 | refine below_set ?_ GE224.out | refine below_set ?_ GE248.out | refine below_set ?_ GE260.out | refine below_set ?_ GE272.out) | exact HB.out)⟩
            ·
             rw [if_neg c86] at H
             have c86b0 : decide (t295 < 0) = false := decide_eq_false c86
             clear c86
             (first | rw [c86b0] | (simp only [i64_w, i32_w]; rw [c86b0]) | skip)
             have H' := Aside0.mk H
             clear H
             go_wp2
             go_meet
             case rel => exact ⟨_, H', ⟨by have := HJ2.out; have := HJ12.out; have := HJ48.out; have := HJ57.out; have := HJ73.out; first | omega | exact Nat.le_refl _⟩, ⟨by (try simp only [hl261000_57]); (try simp only [hl261001_57]); (try simp only [hl261002_57]); (with_reducible repeat (first | apply Kd.R_alloc | apply Kd.R_drewN | apply Kd.R_drew)); exact HO_249000.out⟩, ⟨by (try simp only [hl261000_57]); (try simp only [hl261001_57]); (try simp only [hl261002_57]); (with_reducible repeat (first | apply Kd.R_alloc | apply Kd.R_drewN | apply Kd.R_drew)); exact HO_249001.out⟩, ⟨by (try simp only [hl261000_57]); (try simp only [hl261001_57]); (try simp only [hl261002_57]); (with_reducible repeat (first | apply Kd.R_alloc | apply Kd.R_drewN | apply Kd.R_drew)); exact HO_249002.out⟩, ⟨by (try simp only [hl261000_57]); (try simp only [hl261001_57]); (try simp only [hl261002_57]); (with_reducible repeat (first | apply Kd.R_alloc | apply Kd.R_drewN | apply Kd.R_drew)); exact HO_261000.out⟩, ⟨by (try simp only [hl261000_57]); (try simp only [hl261001_57]); (try simp only [hl261002_57]); (with_reducible repeat (first | apply Kd.R_alloc | apply Kd.R_drewN | apply Kd.R_drew)); exact HO_261001.out⟩, ⟨by (try simp only [hl261000_57]); (try simp only [hl261001_57]); (try simp only [hl261002_57]); (with_reducible repeat (first | apply Kd.R_alloc | apply Kd.R_drewN | apply Kd.R_drew)); exact HO_261002.out⟩, ⟨by (try simp only [hl261000_57]); (try simp only [hl261001_57]); (try simp only [hl261002_57]); (with_reducible repeat (first | apply Kd.R_alloc | apply Kd.R_drewN | apply Kd.R_drew)); exact HO_273000.out⟩, ⟨by (try simp only [hl261000_57]); (try simp only [hl261001_57]); (try simp only [hl261002_57]); (with_reducible repeat (first | apply Kd.R_alloc | apply Kd.R_drewN | apply Kd.R_drew)); exact HO_273001.out⟩, ⟨by (try simp only [hl261000_57]); (try simp only [hl261001_57]); (try simp only [hl261002_57]); (with_reducible repeat (first | apply Kd.R_alloc | apply Kd.R_drewN | apply Kd.R_drew)); exact HO_273002.out⟩, ⟨by (try simp only [hl261000_57]); (try simp only [hl261001_57]); (try simp only [hl261002_57]); (with_reducible repeat (first | refine blk_drewN ?_ _ | refine blk_drew ?_ | refine blk_alloc ?_ _)); exact BK224.out⟩, ⟨by (try simp only [hl261000_57]); (try simp only [hl261001_57]); (try simp only [hl261002_57]); (with_reducible repeat (first | refine blk_drewN ?_ _ | refine blk_drew ?_ | refine blk_alloc ?_ _)); exact BK248.out⟩, ⟨by (try simp only [hl261000_57]); (try simp only [hl261001_57]); (try simp only [hl261002_57]); (with_reducible repeat (first | refine blk_drewN ?_ _ | refine blk_drew ?_ | refine blk_alloc ?_ _)); exact BK260.out⟩, ⟨by (try simp only [hl261000_57]); (try simp only [hl261001_57]); (try simp only [hl261002_57]); (with_reducible repeat (first | refine blk_drewN ?_ _ | refine blk_drew ?_ | refine blk_alloc ?_ _)); exact BK272.out⟩, ⟨by repeat (first | (with_reducible first | exact HB.out | apply below_alloc | apply pw_below_drewN | apply below_drew1 | refine below_set ?_ GE224.out | refine below_set ?_ GE248.out | refine below_set ?_ GE260.out | refine below_set ?_ GE272.out) | exact HB.out)⟩⟩
           case rest =>
            clear HC78
            try clear c1
            try clear c2
            try clear p2
            try clear c3
            try clear c4
            try clear c5
            try clear c6
            try clear c7
            try clear c7b0
            try clear c8
            try clear c12
            try clear c22
            try clear c30
            try clear c31
            try clear c38
            try clear c39
            try clear c40
            try clear c43
            try clear c44
            try clear c46
            try clear c51
            try clear c53
            try clear c56
            try clear c57
            try clear c58
            try clear c59
            try clear c60
            try clear c61
            try clear c64
            try clear c64b0
            try clear c66
            try clear c67
            try clear c68
            try clear c70
            try clear c71
            try clear c75
            try clear c79
            try clear c80
            try clear c81
            try clear c86
            try clear c86b0
            try clear hcz14_0
            try clear hcz14_1
            try clear hcz14_2
            try clear hcz14_3
            try clear hcz14_4
            try clear hcz23_0
            try clear hcz23_1
            try clear hcz23_2
            try clear hcz23_3
            try clear hcz23_4
            try clear hcz26_0
            try clear hcz26_1
            try clear hcz26_2
            try clear hcz26_3
            try clear hcz26_4
            try clear hcz32_0
            try clear hcz32_1
            try clear hcz32_2
            try clear hcz32_3
            try clear hcz32_4
            try clear hcz41_0
            try clear hcz41_1
            try clear hcz41_2
            try clear hcz41_3
            try clear hcz41_4
            try clear hcz44_0
            try clear hcz44_1
            try clear hcz44_2
            try clear hcz44_3
            try clear hcz44_4
            try clear hcz5_0
            try clear hcz5_1
            try clear hcz5_2
            try clear hcz5_3
            try clear hcz5_4
            try clear hcz62_0
            try clear hcz62_1
            try clear hcz62_2
            try clear hcz62_3
            try clear hcz62_4
            try clear hcz69_0
            try clear hcz69_1
            try clear hcz69_2
            try clear hcz69_3
            try clear hcz69_4
            try clear hcz72_0
            try clear hcz72_1
            try clear hcz72_2
            try clear hcz72_3
            try clear hcz72_4
            try clear hcz82_0
            try clear hcz82_1
            try clear hcz82_2
            try clear hcz82_3
            try clear hcz82_4
            try clear hcz84_0
            try clear hcz84_1
            try clear hcz84_2
            try clear hcz84_3
            try clear hcz84_4
            try clear hfz14_0
            try clear hfz14_1
            try clear hfz14_2
            try clear hfz14_3
            try clear hfz14_4
            try clear hfz23_0
            try clear hfz23_1
            try clear hfz23_2
            try clear hfz23_3
            try clear hfz23_4
            try clear hfz26_0
            try clear hfz26_1
            try clear hfz26_2
            try clear hfz26_3
            try clear hfz26_4
            try clear hfz32_0
            try clear hfz32_1
            try clear hfz32_2
            try clear hfz32_3
            try clear hfz32_4
            try clear hfz41_0
            try clear hfz41_1
            try clear hfz41_2
            try clear hfz41_3
            try clear hfz41_4
            try clear hfz44_0
            try clear hfz44_1
            try clear hfz44_2
            try clear hfz44_3
            try clear hfz44_4
            try clear hfz5_0
            try clear hfz5_1
            try clear hfz5_2
            try clear hfz5_3
            try clear hfz5_4
            try clear hfz62_0
            try clear hfz62_1
            try clear hfz62_2
            try clear hfz62_3
            try clear hfz62_4
            try clear hfz69_0
            try clear hfz69_1
            try clear hfz69_2
            try clear hfz69_3
            try clear hfz69_4
            try clear hfz72_0
            try clear hfz72_1
            try clear hfz72_2
            try clear hfz72_3
            try clear hfz72_4
            try clear hfz82_0
            try clear hfz82_1
            try clear hfz82_2
            try clear hfz82_3
            try clear hfz82_4
            try clear hfz84_0
            try clear hfz84_1
            try clear hfz84_2
            try clear hfz84_3
            try clear hfz84_4
            try clear p2
            obtain ⟨kq, HA, HJ77, HO_249000, HO_249001, HO_249002, HO_261000, HO_261001, HO_261002, HO_273000, HO_273001, HO_273002, BK224, BK248, BK260, BK272, HB⟩ := hcut
            have hl273000_77 := (Kd.R_reads' HO_273000.out).1
            rw [hl273000_77] at HO_273000
            (try simp only [hl273000_77])
            (try simp only [hl273000_77] at BK224)
            (try simp only [hl273000_77] at BK248)
            (try simp only [hl273000_77] at BK260)
            (try simp only [hl273000_77] at BK272)
            (try simp only [hl273000_77] at HO_249000)
            (try simp only [hl273000_77] at HO_249001)
            (try simp only [hl273000_77] at HO_249002)
            (try simp only [hl273000_77] at HO_261000)
            (try simp only [hl273000_77] at HO_261001)
            (try simp only [hl273000_77] at HO_261002)
            (try simp only [hl273000_77] at HO_273001)
            (try simp only [hl273000_77] at HO_273002)
            have hl273001_77 := (Kd.R_reads' HO_273001.out).1
            rw [hl273001_77] at HO_273001
            (try simp only [hl273001_77])
            (try simp only [hl273001_77] at BK224)
            (try simp only [hl273001_77] at BK248)
            (try simp only [hl273001_77] at BK260)
            (try simp only [hl273001_77] at BK272)
            (try simp only [hl273001_77] at HO_249000)
            (try simp only [hl273001_77] at HO_249001)
            (try simp only [hl273001_77] at HO_249002)
            (try simp only [hl273001_77] at HO_261000)
            (try simp only [hl273001_77] at HO_261001)
            (try simp only [hl273001_77] at HO_261002)
            (try simp only [hl273001_77] at HO_273000)
            (try simp only [hl273001_77] at HO_273002)
            have hl273002_77 := (Kd.R_reads' HO_273002.out).1
            rw [hl273002_77] at HO_273002
            (try simp only [hl273002_77])
            (try simp only [hl273002_77] at BK224)
            (try simp only [hl273002_77] at BK248)
            (try simp only [hl273002_77] at BK260)
            (try simp only [hl273002_77] at BK272)
            (try simp only [hl273002_77] at HO_249000)
            (try simp only [hl273002_77] at HO_249001)
            (try simp only [hl273002_77] at HO_249002)
            (try simp only [hl273002_77] at HO_261000)
            (try simp only [hl273002_77] at HO_261001)
            (try simp only [hl273002_77] at HO_261002)
            (try simp only [hl273002_77] at HO_273000)
            (try simp only [hl273002_77] at HO_273001)
            cases kq with
            | zero => exact absurd HA.out (by simp [laws_FnExactSpend.j5])
            | succ kj77 =>
             have H := HA.out
             clear HA
             simp only [laws_FnExactSpend.j5] at H
             have HC87 := Aside0.mk H
             clear H
             go_upto_if 53 with (fail)
             go_cut [] (fun wc => ∃ (kq : Nat), Aside0 (laws_FnExactSpend.j6 kq t291 l0_0 l0_1 l0_2 a0_3 a0_4 t237 t240 t243 t246 t247 t292 t293 t294 t270 t271 = some r) ∧ Aside0 (kq ≤ kj77) ∧ Aside0 (Kd.R k123 123 wc w.heap.size (fun k_ => some k_ ≠ ((.slice Ao29 t287.length co29) : Value).ownBlock ∧ some k_ ≠ ((.slice Ao37 t292.length co37) : Value).ownBlock) (.slice Ao21 t237.length co21) t237) ∧ Aside0 (Kd.R (Kd.int .i64) 3 wc w.heap.size (fun k_ => some k_ ≠ ((.slice Ao25 t243.length co25) : Value).ownBlock ∧ some k_ ≠ ((.slice Ao33 t288.length co33) : Value).ownBlock ∧ some k_ ≠ ((.slice Ao34 t289.length co34) : Value).ownBlock ∧ some k_ ≠ ((.slice Ao42 t293.length co42) : Value).ownBlock ∧ some k_ ≠ ((.slice Ao43 t294.length co43) : Value).ownBlock) (.slice Ao24 t240.length co24) t240) ∧ Aside0 (Kd.R (Kd.int .i64) 3 wc w.heap.size (fun k_ => some k_ ≠ ((.slice Ao24 t240.length co24) : Value).ownBlock ∧ some k_ ≠ ((.slice Ao33 t288.length co33) : Value).ownBlock ∧ some k_ ≠ ((.slice Ao34 t289.length co34) : Value).ownBlock ∧ some k_ ≠ ((.slice Ao42 t293.length co42) : Value).ownBlock ∧ some k_ ≠ ((.slice Ao43 t294.length co43) : Value).ownBlock) (.slice Ao25 t243.length co25) t243) ∧ Aside0 (Kd.R k123 123 wc w.heap.size (fun k_ => some k_ ≠ ((.slice Ao21 t237.length co21) : Value).ownBlock ∧ some k_ ≠ ((.slice Ao37 t292.length co37) : Value).ownBlock) (.slice Ao29 t287.length co29) t287) ∧ Aside0 (Kd.R (Kd.int .i64) 3 wc w.heap.size (fun k_ => some k_ ≠ ((.slice Ao24 t240.length co24) : Value).ownBlock ∧ some k_ ≠ ((.slice Ao25 t243.length co25) : Value).ownBlock ∧ some k_ ≠ ((.slice Ao34 t289.length co34) : Value).ownBlock ∧ some k_ ≠ ((.slice Ao42 t293.length co42) : Value).ownBlock ∧ some k_ ≠ ((.slice Ao43 t294.length co43) : Value).ownBlock) (.slice Ao33 t288.length co33) t288) ∧ Aside0 (Kd.R (Kd.int .i64) 3 wc w.heap.size (fun k_ => some k_ ≠ ((.slice Ao24 t240.length co24) : Value).ownBlock ∧ some k_ ≠ ((.slice Ao25 t243.length co25) : Value).ownBlock ∧ some k_ ≠ ((.slice Ao33 t288.length co33) : Value).ownBlock ∧ some k_ ≠ ((.slice Ao42 t293.length co42) : Value).ownBlock ∧ some k_ ≠ ((.slice Ao43 t294.length co43) : Value).ownBlock) (.slice Ao34 t289.length co34) t289) ∧ Aside0 (Kd.R k123 123 wc w.heap.size (fun k_ => some k_ ≠ ((.slice Ao21 t237.length co21) : Value).ownBlock ∧ some k_ ≠ ((.slice Ao29 t287.length co29) : Value).ownBlock) (.slice Ao37 t292.length co37) t292) ∧ Aside0 (Kd.R (Kd.int .i64) 3 wc w.heap.size (fun k_ => some k_ ≠ ((.slice Ao24 t240.length co24) : Value).ownBlock ∧ some k_ ≠ ((.slice Ao25 t243.length co25) : Value).ownBlock ∧ some k_ ≠ ((.slice Ao33 t288.length co33) : Value).ownBlock ∧ some k_ ≠ ((.slice Ao34 t289.length co34) : Value).ownBlock ∧ some k_ ≠ ((.slice Ao43 t294.length co43) : Value).ownBlock) (.slice Ao42 t293.length co42) t293) ∧ Aside0 (Kd.R (Kd.int .i64) 3 wc w.heap.size (fun k_ => some k_ ≠ ((.slice Ao24 t240.length co24) : Value).ownBlock ∧ some k_ ≠ ((.slice Ao25 t243.length co25) : Value).ownBlock ∧ some k_ ≠ ((.slice Ao33 t288.length co33) : Value).ownBlock ∧ some k_ ≠ ((.slice Ao34 t289.length co34) : Value).ownBlock ∧ some k_ ≠ ((.slice Ao42 t293.length co42) : Value).ownBlock) (.slice Ao43 t294.length co43) t294) ∧ Aside0 (wc.heap[gb224]? = some (.cells #[(.slice A0_0 l0_0.length c0_0), (.slice A0_1 l0_1.length c0_1), (.slice A0_2 l0_2.length c0_2), .int .i64 a0_3, .int .i64 a0_4] 77 (0, 0))) ∧ Aside0 (wc.heap[gb248]? = some (.cells #[(.slice Ao21 t237.length co21), (.slice Ao24 t240.length co24), (.slice Ao25 t243.length co25), .int .i64 t246, .int .i64 t247] 57 (0, 0))) ∧ Aside0 (wc.heap[gb260]? = some (.cells #[(.slice Ao29 t287.length co29), (.slice Ao33 t288.length co33), (.slice Ao34 t289.length co34), .int .i64 t258, .int .i64 t259] 57 (0, 0))) ∧ Aside0 (wc.heap[gb272]? = some (.cells #[(.slice Ao37 t292.length co37), (.slice Ao42 t293.length co42), (.slice Ao43 t294.length co43), .int .i64 t270, .int .i64 t271] 57 (0, 0))) ∧ Aside0 (Below w.heap.size w wc))
             case first =>
              have H := HC87.out
              clear HC87
              by_cases c88 : t295 = t291
              ·
               rw [if_pos c88] at H
               have c88b0 : (t295 == t291) = true := beq_iff_eq.mpr c88
               have c88b1 : (t295 != t291) = false := bne_eq_false_iff_eq.mpr c88
               clear c88
               (first | rw [c88b0] | (simp only [i64_w, i32_w]; rw [c88b0]) | skip)
               have H' := Aside0.mk H
               clear H
               go_wp2
               go_meet
               case rel => exact ⟨_, H', ⟨by have := HJ2.out; have := HJ12.out; have := HJ48.out; have := HJ57.out; have := HJ73.out; have := HJ77.out; first | omega | exact Nat.le_refl _⟩, ⟨by (try simp only [hl261000_57]); (try simp only [hl261001_57]); (try simp only [hl261002_57]); (try simp only [hl273000_77]); (try simp only [hl273001_77]); (try simp only [hl273002_77]); (with_reducible repeat (first | apply Kd.R_alloc | apply Kd.R_drewN | apply Kd.R_drew)); exact HO_249000.out⟩, ⟨by (try simp only [hl261000_57]); (try simp only [hl261001_57]); (try simp only [hl261002_57]); (try simp only [hl273000_77]); (try simp only [hl273001_77]); (try simp only [hl273002_77]); (with_reducible repeat (first | apply Kd.R_alloc | apply Kd.R_drewN | apply Kd.R_drew)); exact HO_249001.out⟩, ⟨by (try simp only [hl261000_57]); (try simp only [hl261001_57]); (try simp only [hl261002_57]); (try simp only [hl273000_77]); (try simp only [hl273001_77]); (try simp only [hl273002_77]); (with_reducible repeat (first | apply Kd.R_alloc | apply Kd.R_drewN | apply Kd.R_drew)); exact HO_249002.out⟩, ⟨by (try simp only [hl261000_57]); (try simp only [hl261001_57]); (try simp only [hl261002_57]); (try simp only [hl273000_77]); (try simp only [hl273001_77]); (try simp only [hl273002_77]); (with_reducible repeat (first | apply Kd.R_alloc | apply Kd.R_drewN | apply Kd.R_drew)); exact HO_261000.out⟩, ⟨by (try simp only [hl261000_57]); (try simp only [hl261001_57]); (try simp only [hl261002_57]); (try simp only [hl273000_77]); (try simp only [hl273001_77]); (try simp only [hl273002_77]); (with_reducible repeat (first | apply Kd.R_alloc | apply Kd.R_drewN | apply Kd.R_drew)); exact HO_261001.out⟩, ⟨by (try simp only [hl261000_57]); (try simp only [hl261001_57]); (try simp only [hl261002_57]); (try simp only [hl273000_77]); (try simp only [hl273001_77]); (try simp only [hl273002_77]); (with_reducible repeat (first | apply Kd.R_alloc | apply Kd.R_drewN | apply Kd.R_drew)); exact HO_261002.out⟩, ⟨by (try simp only [hl261000_57]); (try simp only [hl261001_57]); (try simp only [hl261002_57]); (try simp only [hl273000_77]); (try simp only [hl273001_77]); (try simp only [hl273002_77]); (with_reducible repeat (first | apply Kd.R_alloc | apply Kd.R_drewN | apply Kd.R_drew)); exact HO_273000.out⟩, ⟨by (try simp only [hl261000_57]); (try simp only [hl261001_57]); (try simp only [hl261002_57]); (try simp only [hl273000_77]); (try simp only [hl273001_77]); (try simp only [hl273002_77]); (with_reducible repeat (first | apply Kd.R_alloc | apply Kd.R_drewN | apply Kd.R_drew)); exact HO_273001.out⟩, ⟨by (try simp only [hl261000_57]); (try simp only [hl261001_57]); (try simp only [hl261002_57]); (try simp only [hl273000_77]); (try simp only [hl273001_77]); (try simp only [hl273002_77]); (with_reducible repeat (first | apply Kd.R_alloc | apply Kd.R_drewN | apply Kd.R_drew)); exact HO_273002.out⟩, ⟨by (try simp only [hl261000_57]); (try simp only [hl261001_57]); (try simp only [hl261002_57]); (try simp only [hl273000_77]); (try simp only [hl273001_77]); (try simp only [hl273002_77]); (with_reducible repeat (first | refine blk_drewN ?_ _ | refine blk_drew ?_ | refine blk_alloc ?_ _)); exact BK224.out⟩, ⟨by (try simp only [hl261000_57]); (try simp only [hl261001_57]); (try simp only [hl261002_57]); (try simp only [hl273000_77]); (try simp only [hl273001_77]); (try simp only [hl273002_77]); (with_reducible repeat (first | refine blk_drewN ?_ _ | refine blk_drew ?_ | refine blk_alloc ?_ _)); exact BK248.out⟩, ⟨by (try simp only [hl261000_57]); (try simp only [hl261001_57]); (try simp only [hl261002_57]); (try simp only [hl273000_77]); (try simp only [hl273001_77]); (try simp only [hl273002_77]); (with_reducible repeat (first | refine blk_drewN ?_ _ | refine blk_drew ?_ | refine blk_alloc ?_ _)); exact BK260.out⟩, ⟨by (try simp only [hl261000_57]); (try simp only [hl261001_57]); (try simp only [hl261002_57]); (try simp only [hl273000_77]); (try simp only [hl273001_77]); (try simp only [hl273002_77]); (with_reducible repeat (first | refine blk_drewN ?_ _ | refine blk_drew ?_ | refine blk_alloc ?_ _)); exact BK272.out⟩, ⟨by repeat (first | (with_reducible first | exact HB.out | apply below_alloc | apply pw_below_drewN | apply below_drew1 | refine below_set ?_ GE224.out | refine below_set ?_ GE248.out | refine below_set ?_ GE260.out | refine below_set ?_ GE272.out) | exact HB.out)⟩⟩
              ·
               rw [if_neg c88] at H
               have c88b0 : (t295 == t291) = false := beq_eq_false_iff_ne.mpr c88
               have c88b1 : (t295 != t291) = true := bne_iff_ne.mpr c88
               (first | rw [c88b0] | (simp only [i64_w, i32_w]; rw [c88b0]) | skip)
               obtain rfl := Option.some.inj H
               go_wp2
               go_ret
               exact ⟨by first | rfl | (simp [errW_none, errW_some] <;> rfl) | (simp [*, errW_none, errW_some] <;> rfl), by repeat (first | (with_reducible first | exact HB.out | apply below_alloc | apply pw_below_drewN | apply below_drew1 | refine below_set ?_ GE224.out | refine below_set ?_ GE248.out | refine below_set ?_ GE260.out | refine below_set ?_ GE272.out) | exact HB.out)⟩
             case rest =>
              clear HC87
              try clear c1
              try clear c2
              try clear p2
              try clear c3
              try clear c4
              try clear c5
              try clear c6
              try clear c7
              try clear c7b0
              try clear c8
              try clear c12
              try clear c22
              try clear c30
              try clear c31
              try clear c38
              try clear c39
              try clear c40
              try clear c43
              try clear c44
              try clear c46
              try clear c51
              try clear c53
              try clear c56
              try clear c57
              try clear c58
              try clear c59
              try clear c60
              try clear c61
              try clear c64
              try clear c64b0
              try clear c66
              try clear c67
              try clear c68
              try clear c70
              try clear c71
              try clear c75
              try clear c79
              try clear c80
              try clear c81
              try clear c86
              try clear c86b0
              try clear c88
              try clear c88b0
              try clear c88b1
              try clear hcz14_0
              try clear hcz14_1
              try clear hcz14_2
              try clear hcz14_3
              try clear hcz14_4
              try clear hcz23_0
              try clear hcz23_1
              try clear hcz23_2
              try clear hcz23_3
              try clear hcz23_4
              try clear hcz26_0
              try clear hcz26_1
              try clear hcz26_2
              try clear hcz26_3
              try clear hcz26_4
              try clear hcz32_0
              try clear hcz32_1
              try clear hcz32_2
              try clear hcz32_3
              try clear hcz32_4
              try clear hcz41_0
              try clear hcz41_1
              try clear hcz41_2
              try clear hcz41_3
              try clear hcz41_4
              try clear hcz44_0
              try clear hcz44_1
              try clear hcz44_2
              try clear hcz44_3
              try clear hcz44_4
              try clear hcz5_0
              try clear hcz5_1
              try clear hcz5_2
              try clear hcz5_3
              try clear hcz5_4
              try clear hcz62_0
              try clear hcz62_1
              try clear hcz62_2
              try clear hcz62_3
              try clear hcz62_4
              try clear hcz69_0
              try clear hcz69_1
              try clear hcz69_2
              try clear hcz69_3
              try clear hcz69_4
              try clear hcz72_0
              try clear hcz72_1
              try clear hcz72_2
              try clear hcz72_3
              try clear hcz72_4
              try clear hcz82_0
              try clear hcz82_1
              try clear hcz82_2
              try clear hcz82_3
              try clear hcz82_4
              try clear hcz84_0
              try clear hcz84_1
              try clear hcz84_2
              try clear hcz84_3
              try clear hcz84_4
              try clear hfz14_0
              try clear hfz14_1
              try clear hfz14_2
              try clear hfz14_3
              try clear hfz14_4
              try clear hfz23_0
              try clear hfz23_1
              try clear hfz23_2
              try clear hfz23_3
              try clear hfz23_4
              try clear hfz26_0
              try clear hfz26_1
              try clear hfz26_2
              try clear hfz26_3
              try clear hfz26_4
              try clear hfz32_0
              try clear hfz32_1
              try clear hfz32_2
              try clear hfz32_3
              try clear hfz32_4
              try clear hfz41_0
              try clear hfz41_1
              try clear hfz41_2
              try clear hfz41_3
              try clear hfz41_4
              try clear hfz44_0
              try clear hfz44_1
              try clear hfz44_2
              try clear hfz44_3
              try clear hfz44_4
              try clear hfz5_0
              try clear hfz5_1
              try clear hfz5_2
              try clear hfz5_3
              try clear hfz5_4
              try clear hfz62_0
              try clear hfz62_1
              try clear hfz62_2
              try clear hfz62_3
              try clear hfz62_4
              try clear hfz69_0
              try clear hfz69_1
              try clear hfz69_2
              try clear hfz69_3
              try clear hfz69_4
              try clear hfz72_0
              try clear hfz72_1
              try clear hfz72_2
              try clear hfz72_3
              try clear hfz72_4
              try clear hfz82_0
              try clear hfz82_1
              try clear hfz82_2
              try clear hfz82_3
              try clear hfz82_4
              try clear hfz84_0
              try clear hfz84_1
              try clear hfz84_2
              try clear hfz84_3
              try clear hfz84_4
              try clear p2
              obtain ⟨kq, HA, HJ86, HO_249000, HO_249001, HO_249002, HO_261000, HO_261001, HO_261002, HO_273000, HO_273001, HO_273002, BK224, BK248, BK260, BK272, HB⟩ := hcut
              cases kq with
              | zero => exact absurd HA.out (by simp [laws_FnExactSpend.j6])
              | succ kj86 =>
               have H := HA.out
               clear HA
               simp only [laws_FnExactSpend.j6] at H
               replace H := Option.bind_eq_some_iff.mp H
               obtain ⟨⟨t296, t299, t302, t305, t306⟩, A890, H⟩ := H
               replace H : ((impl_Spend.f t296 t299 t302 t305 t306).bind fun bt307 => ((laws_eqMemory.f kj86 bt307.1 bt307.2.1 bt307.2.2.1 bt307.2.2.2.1 bt307.2.2.2.2 t237 t240 t243 t246 t247).bind fun t319 => (if t319 = true then (laws_FnExactSpend.j7 kj86 t291 t292 t293 t294 t270 t271) else (some false)))) = some r := H
               have A89 := Aside0.mk A890
               clear A890
               replace H := Option.bind_eq_some_iff.mp H
               obtain ⟨⟨t307, t310, t313, t316, t317⟩, A900, H⟩ := H
               replace H : ((laws_eqMemory.f kj86 t307 t310 t313 t316 t317 t237 t240 t243 t246 t247).bind fun t319 => (if t319 = true then (laws_FnExactSpend.j7 kj86 t291 t292 t293 t294 t270 t271) else (some false))) = some r := H
               have A90 := Aside0.mk A900
               clear A900
               replace H := Option.bind_eq_some_iff.mp H
               obtain ⟨t319, A910, H⟩ := H
               replace H : (if t319 = true then (laws_FnExactSpend.j7 kj86 t291 t292 t293 t294 t270 t271) else (some false)) = some r := H
               have A91 := Aside0.mk A910
               clear A910
               have HC92 := Aside0.mk H
               clear H
               have hnb93 := NB224_248.out
               have hnc93 := NB248_224.out
               have hnb94 := NB224_260.out
               have hnc94 := NB260_224.out
               have hnb95 := NB224_272.out
               have hnc95 := NB272_224.out
               have hcz96_0 : wc.cell? ⟨gb224, 0, none⟩ = some (.slice A0_0 l0_0.length c0_0) := (blk_cell BK224.out 0).trans rfl
               have hcz96_1 : wc.cell? ⟨gb224, 1, none⟩ = some (.slice A0_1 l0_1.length c0_1) := (blk_cell BK224.out 1).trans rfl
               have hcz96_2 : wc.cell? ⟨gb224, 2, none⟩ = some (.slice A0_2 l0_2.length c0_2) := (blk_cell BK224.out 2).trans rfl
               have hcz96_3 : wc.cell? ⟨gb224, 3, none⟩ = some (.int .i64 a0_3) := (blk_cell BK224.out 3).trans rfl
               have hcz96_4 : wc.cell? ⟨gb224, 4, none⟩ = some (.int .i64 a0_4) := (blk_cell BK224.out 4).trans rfl
               have hfz96_0 := blk_frozen BK224.out 0
               have hfz96_1 := blk_frozen BK224.out 1
               have hfz96_2 := blk_frozen BK224.out 2
               have hfz96_3 := blk_frozen BK224.out 3
               have hfz96_4 := blk_frozen BK224.out 4
               go_upto_if 60 with (first | ((with_reducible refine gate_callee (f := 53) rfl ?_); refine goesL_ (some 55) rfl rfl Try.func53 (by kernel_rfl) rfl #[.agg #[.slice A0_0 l0_0.length c0_0, .slice A0_1 l0_1.length c0_1, .slice A0_2 l0_2.length c0_2, .int .i64 a0_3, .int .i64 a0_4]] rfl (by (try simp only [List.map_toArray, List.map_cons, List.map_nil]); first | done | rfl | (simp only [List.length_drop, List.length_take]; rfl)) ?_; (with_reducible refine (laws_toMemory.calls kj86 _ _ l0_0 _ _ l0_1 _ _ l0_2 a0_3 a0_4 t296 t299 t302 t305 t306 _ ?side1 ?side2 ?side3 ?side4 ?side5 ?side6 A89.out).mono ?_); (case side1 => repeat (first | exact (Kd.C_below HR0_0.out HB.out) | (with_reducible refine Kd.C_alloc ?_ _) | (with_reducible refine Kd.C_drewN ?_ _) | (with_reducible refine Kd.C_drew ?_))); (case side2 => exact HC0_0.out); (case side3 => repeat (first | exact (Kd.C_below HR0_1.out HB.out) | (with_reducible refine Kd.C_alloc ?_ _) | (with_reducible refine Kd.C_drewN ?_ _) | (with_reducible refine Kd.C_drew ?_))); (case side4 => exact HC0_1.out); (case side5 => repeat (first | exact (Kd.C_below HR0_2.out HB.out) | (with_reducible refine Kd.C_alloc ?_ _) | (with_reducible refine Kd.C_drewN ?_ _) | (with_reducible refine Kd.C_drew ?_))); (case side6 => exact HC0_2.out); rintro e w97 ⟨v297, v300, v303, rfl, ho0, ho1, ho2, hb⟩; refine ⟨_, rfl, ?_⟩; have n0_ := Aside0.mk (Kd.R_elder' (by (with_reducible repeat (first | apply Kd.R_alloc | apply Kd.R_drewN | apply Kd.R_drew)); exact HO_249000.out) (Kd.R_base ho0) hb); have n1_ := Aside0.mk (Kd.R_mono (Kd.R_told (Kd.R_told (Kd.R_old (by (with_reducible repeat (first | apply Kd.R_alloc | apply Kd.R_drewN | apply Kd.R_drew)); exact HO_249001.out) hb) (Kd.R_base ho1)) (Kd.R_base ho2)) (fun _ h_ => h_.1)); have n2_ := Aside0.mk (Kd.R_mono (Kd.R_told (Kd.R_told (Kd.R_old (by (with_reducible repeat (first | apply Kd.R_alloc | apply Kd.R_drewN | apply Kd.R_drew)); exact HO_249002.out) hb) (Kd.R_base ho1)) (Kd.R_base ho2)) (fun _ h_ => h_.1)); have n3_ := Aside0.mk (Kd.R_elder' (by (with_reducible repeat (first | apply Kd.R_alloc | apply Kd.R_drewN | apply Kd.R_drew)); exact HO_273000.out) (Kd.R_base ho0) hb); have n4_ := Aside0.mk (Kd.R_mono (Kd.R_told (Kd.R_told (Kd.R_old (by (with_reducible repeat (first | apply Kd.R_alloc | apply Kd.R_drewN | apply Kd.R_drew)); exact HO_273001.out) hb) (Kd.R_base ho1)) (Kd.R_base ho2)) (fun _ h_ => h_.1)); have n5_ := Aside0.mk (Kd.R_mono (Kd.R_told (Kd.R_told (Kd.R_old (by (with_reducible repeat (first | apply Kd.R_alloc | apply Kd.R_drewN | apply Kd.R_drew)); exact HO_273002.out) hb) (Kd.R_base ho1)) (Kd.R_base ho2)) (fun _ h_ => h_.1)); have n6_ := Aside0.mk (Kd.R_lower (Kd.R_new' (Kd.R_new' ho0 (Kd.R_lt (by (with_reducible repeat (first | apply Kd.R_alloc | apply Kd.R_drewN | apply Kd.R_drew)); exact HO_249000.out))) (Kd.R_lt (by (with_reducible repeat (first | apply Kd.R_alloc | apply Kd.R_drewN | apply Kd.R_drew)); exact HO_273000.out))) (below_size (by repeat (first | (with_reducible first | exact HB.out | apply below_alloc | apply pw_below_drewN | apply below_drew1 | refine below_set ?_ GE224.out | refine below_set ?_ GE248.out | refine below_set ?_ GE260.out | refine below_set ?_ GE272.out) | exact HB.out)))); have n7_ := Aside0.mk (Kd.R_lower (Kd.R_new' (Kd.R_new' (Kd.R_new' (Kd.R_new' ho1 (Kd.R_lt (by (with_reducible repeat (first | apply Kd.R_alloc | apply Kd.R_drewN | apply Kd.R_drew)); exact HO_249001.out))) (Kd.R_lt (by (with_reducible repeat (first | apply Kd.R_alloc | apply Kd.R_drewN | apply Kd.R_drew)); exact HO_249002.out))) (Kd.R_lt (by (with_reducible repeat (first | apply Kd.R_alloc | apply Kd.R_drewN | apply Kd.R_drew)); exact HO_273001.out))) (Kd.R_lt (by (with_reducible repeat (first | apply Kd.R_alloc | apply Kd.R_drewN | apply Kd.R_drew)); exact HO_273002.out))) (below_size (by repeat (first | (with_reducible first | exact HB.out | apply below_alloc | apply pw_below_drewN | apply below_drew1 | refine below_set ?_ GE224.out | refine below_set ?_ GE248.out | refine below_set ?_ GE260.out | refine below_set ?_ GE272.out) | exact HB.out)))); have n8_ := Aside0.mk (Kd.R_lower (Kd.R_new' (Kd.R_new' (Kd.R_new' (Kd.R_new' ho2 (Kd.R_lt (by (with_reducible repeat (first | apply Kd.R_alloc | apply Kd.R_drewN | apply Kd.R_drew)); exact HO_249001.out))) (Kd.R_lt (by (with_reducible repeat (first | apply Kd.R_alloc | apply Kd.R_drewN | apply Kd.R_drew)); exact HO_249002.out))) (Kd.R_lt (by (with_reducible repeat (first | apply Kd.R_alloc | apply Kd.R_drewN | apply Kd.R_drew)); exact HO_273001.out))) (Kd.R_lt (by (with_reducible repeat (first | apply Kd.R_alloc | apply Kd.R_drewN | apply Kd.R_drew)); exact HO_273002.out))) (below_size (by repeat (first | (with_reducible first | exact HB.out | apply below_alloc | apply pw_below_drewN | apply below_drew1 | refine below_set ?_ GE224.out | refine below_set ?_ GE248.out | refine below_set ?_ GE260.out | refine below_set ?_ GE272.out) | exact HB.out)))); have n9_ := Aside0.mk (blk_below (g := gb224) (o := .cells #[.slice A0_0 l0_0.length c0_0, .slice A0_1 l0_1.length c0_1, .slice A0_2 l0_2.length c0_2, .int .i64 a0_3, .int .i64 a0_4] 77 (0, 0)) (by (with_reducible repeat (first | refine blk_drewN ?_ _ | refine blk_drew ?_ | refine blk_alloc ?_ _)); exact BK224.out) hb); have n10_ := Aside0.mk (blk_below (g := gb248) (o := .cells #[.slice Ao21 t237.length co21, .slice Ao24 t240.length co24, .slice Ao25 t243.length co25, .int .i64 t246, .int .i64 t247] 57 (0, 0)) (by (with_reducible repeat (first | refine blk_drewN ?_ _ | refine blk_drew ?_ | refine blk_alloc ?_ _)); exact BK248.out) hb); have n11_ := Aside0.mk (blk_below (g := gb260) (o := .cells #[.slice Ao29 t287.length co29, .slice Ao33 t288.length co33, .slice Ao34 t289.length co34, .int .i64 t258, .int .i64 t259] 57 (0, 0)) (by (with_reducible repeat (first | refine blk_drewN ?_ _ | refine blk_drew ?_ | refine blk_alloc ?_ _)); exact BK260.out) hb); have n12_ := Aside0.mk (blk_below (g := gb272) (o := .cells #[.slice Ao37 t292.length co37, .slice Ao42 t293.length co42, .slice Ao43 t294.length co43, .int .i64 t270, .int .i64 t271] 57 (0, 0)) (by (with_reducible repeat (first | refine blk_drewN ?_ _ | refine blk_drew ?_ | refine blk_alloc ?_ _)); exact BK272.out) hb); have n13_ := Aside0.mk (below_step (by repeat (first | (with_reducible first | exact HB.out | apply below_alloc | apply pw_below_drewN | apply below_drew1 | refine below_set ?_ GE224.out | refine below_set ?_ GE248.out | refine below_set ?_ GE260.out | refine below_set ?_ GE272.out) | exact HB.out)) hb); clear HO_249000; clear HO_249001; clear HO_249002; clear HO_273000; clear HO_273001; clear HO_273002; clear BK224; clear BK248; clear BK260; clear BK272; clear HB; have HO_249000 := n0_; have HO_249001 := n1_; have HO_249002 := n2_; have HO_273000 := n3_; have HO_273001 := n4_; have HO_273002 := n5_; have HO298 := n6_; have HO301 := n7_; have HO304 := n8_; have BK224 := n9_; have BK248 := n10_; have BK260 := n11_; have BK272 := n12_; have HB := n13_; clear n0_ n1_ n2_ n3_ n4_ n5_ n6_ n7_ n8_ n9_ n10_ n11_ n12_ n13_; (try clear hb); (try clear hb2); (try clear hk); (try clear hi); (try clear ho0); (try clear ho1); (try clear ho2); obtain ⟨Ao98, co98, eo98⟩ := Kd.R_slice HO298.out; subst eo98; obtain ⟨Ao99, co99, eo99⟩ := Kd.R_slice HO301.out; subst eo99; obtain ⟨Ao100, co100, eo100⟩ := Kd.R_slice HO304.out; subst eo100) | ((with_reducible refine gate_callee (f := 58) rfl ?_); refine goesL_ (some 56) rfl rfl Try.func58 (by kernel_rfl) rfl #[.agg #[.slice Ao98 t296.length co98, .slice Ao99 t299.length co99, .slice Ao100 t302.length co100, .int .i64 t305, .int .i64 t306]] rfl (by (try simp only [List.map_toArray, List.map_cons, List.map_nil]); first | done | rfl | (simp only [List.length_drop, List.length_take]; rfl)) ?_; (with_reducible refine (impl_Spend.calls _ _ t296 _ _ t299 _ _ t302 t305 t306 t307 t310 t313 t316 t317 _ ?side1 ?side2 ?side3 ?side4 ?side5 ?side6 A90.out).mono ?_); (case side1 => repeat (first | exact (Kd.R_reads' HO298.out).2.2 | (with_reducible refine Kd.C_alloc ?_ _) | (with_reducible refine Kd.C_drewN ?_ _) | (with_reducible refine Kd.C_drew ?_))); (case side2 => exact (Kd.R_reads' HO298.out).2.1); (case side3 => repeat (first | exact (Kd.R_reads' HO301.out).2.2 | (with_reducible refine Kd.C_alloc ?_ _) | (with_reducible refine Kd.C_drewN ?_ _) | (with_reducible refine Kd.C_drew ?_))); (case side4 => exact (Kd.R_reads' HO301.out).2.1); (case side5 => repeat (first | exact (Kd.R_reads' HO304.out).2.2 | (with_reducible refine Kd.C_alloc ?_ _) | (with_reducible refine Kd.C_drewN ?_ _) | (with_reducible refine Kd.C_drew ?_))); (case side6 => exact (Kd.R_reads' HO304.out).2.1); rintro e w101 ⟨v308, v311, v314, rfl, ho0, ho1, ho2, hb⟩; refine ⟨_, rfl, ?_⟩; have n0_ := Aside0.mk (Kd.R_elder' (by (with_reducible repeat (first | apply Kd.R_alloc | apply Kd.R_drewN | apply Kd.R_drew)); exact HO_249000.out) (Kd.R_base ho0) hb); have n1_ := Aside0.mk (Kd.R_mono (Kd.R_told (Kd.R_told (Kd.R_old (by (with_reducible repeat (first | apply Kd.R_alloc | apply Kd.R_drewN | apply Kd.R_drew)); exact HO_249001.out) hb) (Kd.R_base ho1)) (Kd.R_base ho2)) (fun _ h_ => h_.1)); have n2_ := Aside0.mk (Kd.R_mono (Kd.R_told (Kd.R_told (Kd.R_old (by (with_reducible repeat (first | apply Kd.R_alloc | apply Kd.R_drewN | apply Kd.R_drew)); exact HO_249002.out) hb) (Kd.R_base ho1)) (Kd.R_base ho2)) (fun _ h_ => h_.1)); have n3_ := Aside0.mk (Kd.R_elder' (by (with_reducible repeat (first | apply Kd.R_alloc | apply Kd.R_drewN | apply Kd.R_drew)); exact HO_273000.out) (Kd.R_base ho0) hb); have n4_ := Aside0.mk (Kd.R_mono (Kd.R_told (Kd.R_told (Kd.R_old (by (with_reducible repeat (first | apply Kd.R_alloc | apply Kd.R_drewN | apply Kd.R_drew)); exact HO_273001.out) hb) (Kd.R_base ho1)) (Kd.R_base ho2)) (fun _ h_ => h_.1)); have n5_ := Aside0.mk (Kd.R_mono (Kd.R_told (Kd.R_told (Kd.R_old (by (with_reducible repeat (first | apply Kd.R_alloc | apply Kd.R_drewN | apply Kd.R_drew)); exact HO_273002.out) hb) (Kd.R_base ho1)) (Kd.R_base ho2)) (fun _ h_ => h_.1)); have n6_ := Aside0.mk (Kd.R_elder' (by (with_reducible repeat (first | apply Kd.R_alloc | apply Kd.R_drewN | apply Kd.R_drew)); exact HO298.out) (Kd.R_base ho0) hb); have n7_ := Aside0.mk (Kd.R_mono (Kd.R_told (Kd.R_told (Kd.R_old (by (with_reducible repeat (first | apply Kd.R_alloc | apply Kd.R_drewN | apply Kd.R_drew)); exact HO301.out) hb) (Kd.R_base ho1)) (Kd.R_base ho2)) (fun _ h_ => h_.1)); have n8_ := Aside0.mk (Kd.R_mono (Kd.R_told (Kd.R_told (Kd.R_old (by (with_reducible repeat (first | apply Kd.R_alloc | apply Kd.R_drewN | apply Kd.R_drew)); exact HO304.out) hb) (Kd.R_base ho1)) (Kd.R_base ho2)) (fun _ h_ => h_.1)); have n9_ := Aside0.mk (Kd.R_lower (Kd.R_new' (Kd.R_new' (Kd.R_new' ho0 (Kd.R_lt (by (with_reducible repeat (first | apply Kd.R_alloc | apply Kd.R_drewN | apply Kd.R_drew)); exact HO_249000.out))) (Kd.R_lt (by (with_reducible repeat (first | apply Kd.R_alloc | apply Kd.R_drewN | apply Kd.R_drew)); exact HO_273000.out))) (Kd.R_lt (by (with_reducible repeat (first | apply Kd.R_alloc | apply Kd.R_drewN | apply Kd.R_drew)); exact HO298.out))) (below_size (by repeat (first | (with_reducible first | exact HB.out | apply below_alloc | apply pw_below_drewN | apply below_drew1 | refine below_set ?_ GE224.out | refine below_set ?_ GE248.out | refine below_set ?_ GE260.out | refine below_set ?_ GE272.out) | exact HB.out)))); have n10_ := Aside0.mk (Kd.R_lower (Kd.R_new' (Kd.R_new' (Kd.R_new' (Kd.R_new' (Kd.R_new' (Kd.R_new' ho1 (Kd.R_lt (by (with_reducible repeat (first | apply Kd.R_alloc | apply Kd.R_drewN | apply Kd.R_drew)); exact HO_249001.out))) (Kd.R_lt (by (with_reducible repeat (first | apply Kd.R_alloc | apply Kd.R_drewN | apply Kd.R_drew)); exact HO_249002.out))) (Kd.R_lt (by (with_reducible repeat (first | apply Kd.R_alloc | apply Kd.R_drewN | apply Kd.R_drew)); exact HO_273001.out))) (Kd.R_lt (by (with_reducible repeat (first | apply Kd.R_alloc | apply Kd.R_drewN | apply Kd.R_drew)); exact HO_273002.out))) (Kd.R_lt (by (with_reducible repeat (first | apply Kd.R_alloc | apply Kd.R_drewN | apply Kd.R_drew)); exact HO301.out))) (Kd.R_lt (by (with_reducible repeat (first | apply Kd.R_alloc | apply Kd.R_drewN | apply Kd.R_drew)); exact HO304.out))) (below_size (by repeat (first | (with_reducible first | exact HB.out | apply below_alloc | apply pw_below_drewN | apply below_drew1 | refine below_set ?_ GE224.out | refine below_set ?_ GE248.out | refine below_set ?_ GE260.out | refine below_set ?_ GE272.out) | exact HB.out)))); have n11_ := Aside0.mk (Kd.R_lower (Kd.R_new' (Kd.R_new' (Kd.R_new' (Kd.R_new' (Kd.R_new' (Kd.R_new' ho2 (Kd.R_lt (by (with_reducible repeat (first | apply Kd.R_alloc | apply Kd.R_drewN | apply Kd.R_drew)); exact HO_249001.out))) (Kd.R_lt (by (with_reducible repeat (first | apply Kd.R_alloc | apply Kd.R_drewN | apply Kd.R_drew)); exact HO_249002.out))) (Kd.R_lt (by (with_reducible repeat (first | apply Kd.R_alloc | apply Kd.R_drewN | apply Kd.R_drew)); exact HO_273001.out))) (Kd.R_lt (by (with_reducible repeat (first | apply Kd.R_alloc | apply Kd.R_drewN | apply Kd.R_drew)); exact HO_273002.out))) (Kd.R_lt (by (with_reducible repeat (first | apply Kd.R_alloc | apply Kd.R_drewN | apply Kd.R_drew)); exact HO301.out))) (Kd.R_lt (by (with_reducible repeat (first | apply Kd.R_alloc | apply Kd.R_drewN | apply Kd.R_drew)); exact HO304.out))) (below_size (by repeat (first | (with_reducible first | exact HB.out | apply below_alloc | apply pw_below_drewN | apply below_drew1 | refine below_set ?_ GE224.out | refine below_set ?_ GE248.out | refine below_set ?_ GE260.out | refine below_set ?_ GE272.out) | exact HB.out)))); have n12_ := Aside0.mk (blk_below (g := gb224) (o := .cells #[.slice A0_0 l0_0.length c0_0, .slice A0_1 l0_1.length c0_1, .slice A0_2 l0_2.length c0_2, .int .i64 a0_3, .int .i64 a0_4] 77 (0, 0)) (by (with_reducible repeat (first | refine blk_drewN ?_ _ | refine blk_drew ?_ | refine blk_alloc ?_ _)); exact BK224.out) hb); have n13_ := Aside0.mk (blk_below (g := gb248) (o := .cells #[.slice Ao21 t237.length co21, .slice Ao24 t240.length co24, .slice Ao25 t243.length co25, .int .i64 t246, .int .i64 t247] 57 (0, 0)) (by (with_reducible repeat (first | refine blk_drewN ?_ _ | refine blk_drew ?_ | refine blk_alloc ?_ _)); exact BK248.out) hb); have n14_ := Aside0.mk (blk_below (g := gb260) (o := .cells #[.slice Ao29 t287.length co29, .slice Ao33 t288.length co33, .slice Ao34 t289.length co34, .int .i64 t258, .int .i64 t259] 57 (0, 0)) (by (with_reducible repeat (first | refine blk_drewN ?_ _ | refine blk_drew ?_ | refine blk_alloc ?_ _)); exact BK260.out) hb); have n15_ := Aside0.mk (blk_below (g := gb272) (o := .cells #[.slice Ao37 t292.length co37, .slice Ao42 t293.length co42, .slice Ao43 t294.length co43, .int .i64 t270, .int .i64 t271] 57 (0, 0)) (by (with_reducible repeat (first | refine blk_drewN ?_ _ | refine blk_drew ?_ | refine blk_alloc ?_ _)); exact BK272.out) hb); have n16_ := Aside0.mk (below_step (by repeat (first | (with_reducible first | exact HB.out | apply below_alloc | apply pw_below_drewN | apply below_drew1 | refine below_set ?_ GE224.out | refine below_set ?_ GE248.out | refine below_set ?_ GE260.out | refine below_set ?_ GE272.out) | exact HB.out)) hb); clear HO_249000; clear HO_249001; clear HO_249002; clear HO_273000; clear HO_273001; clear HO_273002; clear HO298; clear HO301; clear HO304; clear BK224; clear BK248; clear BK260; clear BK272; clear HB; have HO_249000 := n0_; have HO_249001 := n1_; have HO_249002 := n2_; have HO_273000 := n3_; have HO_273001 := n4_; have HO_273002 := n5_; have HO298 := n6_; have HO301 := n7_; have HO304 := n8_; have HO309 := n9_; have HO312 := n10_; have HO315 := n11_; have BK224 := n12_; have BK248 := n13_; have BK260 := n14_; have BK272 := n15_; have HB := n16_; clear n0_ n1_ n2_ n3_ n4_ n5_ n6_ n7_ n8_ n9_ n10_ n11_ n12_ n13_ n14_ n15_ n16_; (try clear hb); (try clear hb2); (try clear hk); (try clear hi); (try clear ho0); (try clear ho1); (try clear ho2)) | ((with_reducible refine gate_dst (N := 10) rfl ?_); refine box_event ?hg (N := 10) ?hd (cs := #[.slice none 0 0, .slice none 0 0, .slice none 0 0, .int .i64 0, .int .i64 0]) (t := 57) ?hr ?_; (case hd => rfl); (case hg => rfl); (case hr => first | (go_simp; done) | (go_simp; rfl)); intro gb318 hg w102 hbox hb; have n0_ := Aside0.mk (Kd.R_below (by (with_reducible repeat (first | apply Kd.R_alloc | apply Kd.R_drewN | apply Kd.R_drew)); exact HO_249000.out) hb); have n1_ := Aside0.mk (Kd.R_below (by (with_reducible repeat (first | apply Kd.R_alloc | apply Kd.R_drewN | apply Kd.R_drew)); exact HO_249001.out) hb); have n2_ := Aside0.mk (Kd.R_below (by (with_reducible repeat (first | apply Kd.R_alloc | apply Kd.R_drewN | apply Kd.R_drew)); exact HO_249002.out) hb); have n3_ := Aside0.mk (Kd.R_below (by (with_reducible repeat (first | apply Kd.R_alloc | apply Kd.R_drewN | apply Kd.R_drew)); exact HO_273000.out) hb); have n4_ := Aside0.mk (Kd.R_below (by (with_reducible repeat (first | apply Kd.R_alloc | apply Kd.R_drewN | apply Kd.R_drew)); exact HO_273001.out) hb); have n5_ := Aside0.mk (Kd.R_below (by (with_reducible repeat (first | apply Kd.R_alloc | apply Kd.R_drewN | apply Kd.R_drew)); exact HO_273002.out) hb); have n6_ := Aside0.mk (Kd.R_below (by (with_reducible repeat (first | apply Kd.R_alloc | apply Kd.R_drewN | apply Kd.R_drew)); exact HO309.out) hb); have n7_ := Aside0.mk (Kd.R_below (by (with_reducible repeat (first | apply Kd.R_alloc | apply Kd.R_drewN | apply Kd.R_drew)); exact HO312.out) hb); have n8_ := Aside0.mk (Kd.R_below (by (with_reducible repeat (first | apply Kd.R_alloc | apply Kd.R_drewN | apply Kd.R_drew)); exact HO315.out) hb); have n9_ := Aside0.mk (blk_below (g := gb224) (o := .cells #[.slice A0_0 l0_0.length c0_0, .slice A0_1 l0_1.length c0_1, .slice A0_2 l0_2.length c0_2, .int .i64 a0_3, .int .i64 a0_4] 77 (0, 0)) (by (with_reducible repeat (first | refine blk_drewN ?_ _ | refine blk_drew ?_ | refine blk_alloc ?_ _)); exact BK224.out) hb); have n10_ := Aside0.mk (blk_below (g := gb248) (o := .cells #[.slice Ao21 t237.length co21, .slice Ao24 t240.length co24, .slice Ao25 t243.length co25, .int .i64 t246, .int .i64 t247] 57 (0, 0)) (by (with_reducible repeat (first | refine blk_drewN ?_ _ | refine blk_drew ?_ | refine blk_alloc ?_ _)); exact BK248.out) hb); have n11_ := Aside0.mk (blk_below (g := gb260) (o := .cells #[.slice Ao29 t287.length co29, .slice Ao33 t288.length co33, .slice Ao34 t289.length co34, .int .i64 t258, .int .i64 t259] 57 (0, 0)) (by (with_reducible repeat (first | refine blk_drewN ?_ _ | refine blk_drew ?_ | refine blk_alloc ?_ _)); exact BK260.out) hb); have n12_ := Aside0.mk (blk_below (g := gb272) (o := .cells #[.slice Ao37 t292.length co37, .slice Ao42 t293.length co42, .slice Ao43 t294.length co43, .int .i64 t270, .int .i64 t271] 57 (0, 0)) (by (with_reducible repeat (first | refine blk_drewN ?_ _ | refine blk_drew ?_ | refine blk_alloc ?_ _)); exact BK272.out) hb); have n13_ := Aside0.mk (below_step (by repeat (first | (with_reducible first | exact HB.out | apply below_alloc | apply pw_below_drewN | apply below_drew1 | refine below_set ?_ GE224.out | refine below_set ?_ GE248.out | refine below_set ?_ GE260.out | refine below_set ?_ GE272.out) | exact HB.out)) hb); have n14_ := Aside0.mk (hbox); have n15_ := Aside0.mk ((by rw [hg]; exact (below_size (by repeat (first | (with_reducible first | exact HB.out | apply below_alloc | apply pw_below_drewN | apply below_drew1 | refine below_set ?_ GE224.out | refine below_set ?_ GE248.out | refine below_set ?_ GE260.out | refine below_set ?_ GE272.out) | exact HB.out))) : w.heap.size ≤ gb318)); have n16_ := Aside0.mk ((by rw [hg]; exact (below_size (by repeat (first | (with_reducible first | exact HB.out | apply below_alloc | apply pw_below_drewN | apply below_drew1 | refine below_set ?_ GE224.out | refine below_set ?_ GE248.out | refine below_set ?_ GE260.out | refine below_set ?_ GE272.out) | exact HB.out))) : w.heap.size ≤ gb318)); have n17_ := Aside0.mk ((by rw [hg]; exact Nat.ne_of_lt (blk_lt (g := gb224) (o := .cells #[.slice A0_0 l0_0.length c0_0, .slice A0_1 l0_1.length c0_1, .slice A0_2 l0_2.length c0_2, .int .i64 a0_3, .int .i64 a0_4] 77 (0, 0)) (by (with_reducible repeat (first | refine blk_drewN ?_ _ | refine blk_drew ?_ | refine blk_alloc ?_ _)); exact BK224.out)) : gb224 ≠ gb318)); have n18_ := Aside0.mk ((by rw [hg]; exact Nat.ne_of_gt (blk_lt (g := gb224) (o := .cells #[.slice A0_0 l0_0.length c0_0, .slice A0_1 l0_1.length c0_1, .slice A0_2 l0_2.length c0_2, .int .i64 a0_3, .int .i64 a0_4] 77 (0, 0)) (by (with_reducible repeat (first | refine blk_drewN ?_ _ | refine blk_drew ?_ | refine blk_alloc ?_ _)); exact BK224.out)) : gb318 ≠ gb224)); have n19_ := Aside0.mk ((by rw [hg]; exact Nat.ne_of_lt (blk_lt (g := gb248) (o := .cells #[.slice Ao21 t237.length co21, .slice Ao24 t240.length co24, .slice Ao25 t243.length co25, .int .i64 t246, .int .i64 t247] 57 (0, 0)) (by (with_reducible repeat (first | refine blk_drewN ?_ _ | refine blk_drew ?_ | refine blk_alloc ?_ _)); exact BK248.out)) : gb248 ≠ gb318)); have n20_ := Aside0.mk ((by rw [hg]; exact Nat.ne_of_gt (blk_lt (g := gb248) (o := .cells #[.slice Ao21 t237.length co21, .slice Ao24 t240.length co24, .slice Ao25 t243.length co25, .int .i64 t246, .int .i64 t247] 57 (0, 0)) (by (with_reducible repeat (first | refine blk_drewN ?_ _ | refine blk_drew ?_ | refine blk_alloc ?_ _)); exact BK248.out)) : gb318 ≠ gb248)); have n21_ := Aside0.mk ((by rw [hg]; exact Nat.ne_of_lt (blk_lt (g := gb260) (o := .cells #[.slice Ao29 t287.length co29, .slice Ao33 t288.length co33, .slice Ao34 t289.length co34, .int .i64 t258, .int .i64 t259] 57 (0, 0)) (by (with_reducible repeat (first | refine blk_drewN ?_ _ | refine blk_drew ?_ | refine blk_alloc ?_ _)); exact BK260.out)) : gb260 ≠ gb318)); have n22_ := Aside0.mk ((by rw [hg]; exact Nat.ne_of_gt (blk_lt (g := gb260) (o := .cells #[.slice Ao29 t287.length co29, .slice Ao33 t288.length co33, .slice Ao34 t289.length co34, .int .i64 t258, .int .i64 t259] 57 (0, 0)) (by (with_reducible repeat (first | refine blk_drewN ?_ _ | refine blk_drew ?_ | refine blk_alloc ?_ _)); exact BK260.out)) : gb318 ≠ gb260)); have n23_ := Aside0.mk ((by rw [hg]; exact Nat.ne_of_lt (blk_lt (g := gb272) (o := .cells #[.slice Ao37 t292.length co37, .slice Ao42 t293.length co42, .slice Ao43 t294.length co43, .int .i64 t270, .int .i64 t271] 57 (0, 0)) (by (with_reducible repeat (first | refine blk_drewN ?_ _ | refine blk_drew ?_ | refine blk_alloc ?_ _)); exact BK272.out)) : gb272 ≠ gb318)); have n24_ := Aside0.mk ((by rw [hg]; exact Nat.ne_of_gt (blk_lt (g := gb272) (o := .cells #[.slice Ao37 t292.length co37, .slice Ao42 t293.length co42, .slice Ao43 t294.length co43, .int .i64 t270, .int .i64 t271] 57 (0, 0)) (by (with_reducible repeat (first | refine blk_drewN ?_ _ | refine blk_drew ?_ | refine blk_alloc ?_ _)); exact BK272.out)) : gb318 ≠ gb272)); clear HO_249000; clear HO_249001; clear HO_249002; clear HO_273000; clear HO_273001; clear HO_273002; clear HO309; clear HO312; clear HO315; clear BK224; clear BK248; clear BK260; clear BK272; clear HB; have HO_249000 := n0_; have HO_249001 := n1_; have HO_249002 := n2_; have HO_273000 := n3_; have HO_273001 := n4_; have HO_273002 := n5_; have HO309 := n6_; have HO312 := n7_; have HO315 := n8_; have BK224 := n9_; have BK248 := n10_; have BK260 := n11_; have BK272 := n12_; have HB := n13_; have BK318 := n14_; have GW318 := n15_; have GE318 := n16_; have NB224_318 := n17_; have NB318_224 := n18_; have NB248_318 := n19_; have NB318_248 := n20_; have NB260_318 := n21_; have NB318_260 := n22_; have NB272_318 := n23_; have NB318_272 := n24_; clear n0_ n1_ n2_ n3_ n4_ n5_ n6_ n7_ n8_ n9_ n10_ n11_ n12_ n13_ n14_ n15_ n16_ n17_ n18_ n19_ n20_ n21_ n22_ n23_ n24_; clear hb hbox hg; obtain ⟨Ao103, co103, eo103⟩ := Kd.R_slice HO309.out; subst eo103; have hnb104 := NB318_224.out; have hnc104 := NB224_318.out; have hnb105 := NB318_248.out; have hnc105 := NB248_318.out; have hnb106 := NB318_260.out; have hnc106 := NB260_318.out; have hnb107 := NB318_272.out; have hnc107 := NB272_318.out; have hcz108_0 : w102.cell? ⟨gb318, 0, none⟩ = some (.slice none 0 0) := (blk_cell BK318.out 0).trans rfl; have hcz108_1 : w102.cell? ⟨gb318, 1, none⟩ = some (.slice none 0 0) := (blk_cell BK318.out 1).trans rfl; have hcz108_2 : w102.cell? ⟨gb318, 2, none⟩ = some (.slice none 0 0) := (blk_cell BK318.out 2).trans rfl; have hcz108_3 : w102.cell? ⟨gb318, 3, none⟩ = some (.int .i64 0) := (blk_cell BK318.out 3).trans rfl; have hcz108_4 : w102.cell? ⟨gb318, 4, none⟩ = some (.int .i64 0) := (blk_cell BK318.out 4).trans rfl; have hfz108_0 := blk_frozen BK318.out 0; have hfz108_1 := blk_frozen BK318.out 1; have hfz108_2 := blk_frozen BK318.out 2; have hfz108_3 := blk_frozen BK318.out 3; have hfz108_4 := blk_frozen BK318.out 4; obtain ⟨Ao109, co109, eo109⟩ := Kd.R_slice HO312.out; subst eo109; obtain ⟨Ao110, co110, eo110⟩ := Kd.R_slice HO315.out; subst eo110; have hnb111 := NB248_260.out; have hnc111 := NB260_248.out; have hnb112 := NB248_272.out; have hnc112 := NB272_248.out; have hcz113_0 : w102.cell? ⟨gb248, 0, none⟩ = some (.slice Ao21 t237.length co21) := (blk_cell BK248.out 0).trans rfl; have hcz113_1 : w102.cell? ⟨gb248, 1, none⟩ = some (.slice Ao24 t240.length co24) := (blk_cell BK248.out 1).trans rfl; have hcz113_2 : w102.cell? ⟨gb248, 2, none⟩ = some (.slice Ao25 t243.length co25) := (blk_cell BK248.out 2).trans rfl; have hcz113_3 : w102.cell? ⟨gb248, 3, none⟩ = some (.int .i64 t246) := (blk_cell BK248.out 3).trans rfl; have hcz113_4 : w102.cell? ⟨gb248, 4, none⟩ = some (.int .i64 t247) := (blk_cell BK248.out 4).trans rfl; have hfz113_0 := blk_frozen BK248.out 0; have hfz113_1 := blk_frozen BK248.out 1; have hfz113_2 := blk_frozen BK248.out 2; have hfz113_3 := blk_frozen BK248.out 3; have hfz113_4 := blk_frozen BK248.out 4) | ((with_reducible refine gate_callee (f := 40) rfl ?_); refine goesL_ (some 59) rfl rfl Try.func40 (by kernel_rfl) rfl #[.agg #[.slice Ao103 t307.length co103, .slice Ao109 t310.length co109, .slice Ao110 t313.length co110, .int .i64 t316, .int .i64 t317], .agg #[.slice Ao21 t237.length co21, .slice Ao24 t240.length co24, .slice Ao25 t243.length co25, .int .i64 t246, .int .i64 t247]] rfl (by (try simp only [List.map_toArray, List.map_cons, List.map_nil]); first | done | rfl | (simp only [List.length_drop, List.length_take]; rfl)) ?_; (with_reducible refine (laws_eqMemory.calls kj86 _ _ t307 _ _ t310 _ _ t313 t316 t317 _ _ t237 _ _ t240 _ _ t243 t246 t247 t319 _ ?side1 ?side2 ?side3 ?side4 ?side5 ?side6 ?side7 ?side8 ?side9 ?side10 ?side11 ?side12 A91.out).mono ?_); (case side1 => refine (Kd.R_reads' (e := 123) (base := w.heap.size) (ok := fun k_ => (((True ∧ some k_ ≠ (.slice Ao21 t237.length co21 : Value).ownBlock) ∧ some k_ ≠ (.slice Ao37 t292.length co37 : Value).ownBlock) ∧ some k_ ≠ (.slice Ao98 t296.length co98 : Value).ownBlock)) (n := t307.length) (c := co103) ?_).2.2; exact (by (with_reducible repeat (first | apply Kd.R_alloc | apply Kd.R_drewN | apply Kd.R_drew)); exact (Kd.R_mono (Kd.R_far (p := ⟨gb318, 4, none⟩) (Kd.R_far (p := ⟨gb318, 3, none⟩) (Kd.R_far (p := ⟨gb318, 2, none⟩) (Kd.R_far (p := ⟨gb318, 1, none⟩) (Kd.R_far (p := ⟨gb318, 0, none⟩) (Kd.R_types HO309.out BK318.out (by decide)) (fun _ hk => hk.2) (.slice Ao103 t307.length co103)) (fun _ hk => hk.2) (.slice Ao109 t310.length co109)) (fun _ hk => hk.2) (.slice Ao110 t313.length co110)) (fun _ hk => hk.2) (.int .i64 t316)) (fun _ hk => hk.2) (.int .i64 t317)) (fun _ h_ => h_.1)))); (case side2 => exact (Kd.R_reads' HO309.out).2.1); (case side3 => refine (Kd.R_reads' (e := 3) (base := w.heap.size) (ok := fun k_ => ((((((some k_ ≠ (.slice Ao110 t313.length co110 : Value).ownBlock ∧ some k_ ≠ (.slice Ao24 t240.length co24 : Value).ownBlock) ∧ some k_ ≠ (.slice Ao25 t243.length co25 : Value).ownBlock) ∧ some k_ ≠ (.slice Ao42 t293.length co42 : Value).ownBlock) ∧ some k_ ≠ (.slice Ao43 t294.length co43 : Value).ownBlock) ∧ some k_ ≠ (.slice Ao99 t299.length co99 : Value).ownBlock) ∧ some k_ ≠ (.slice Ao100 t302.length co100 : Value).ownBlock)) (n := t310.length) (c := co109) ?_).2.2; exact (by (with_reducible repeat (first | apply Kd.R_alloc | apply Kd.R_drewN | apply Kd.R_drew)); exact (Kd.R_mono (Kd.R_far (p := ⟨gb318, 4, none⟩) (Kd.R_far (p := ⟨gb318, 3, none⟩) (Kd.R_far (p := ⟨gb318, 2, none⟩) (Kd.R_far (p := ⟨gb318, 1, none⟩) (Kd.R_far (p := ⟨gb318, 0, none⟩) (Kd.R_types HO312.out BK318.out (by decide)) (fun _ hk => hk.2) (.slice Ao103 t307.length co103)) (fun _ hk => hk.2) (.slice Ao109 t310.length co109)) (fun _ hk => hk.2) (.slice Ao110 t313.length co110)) (fun _ hk => hk.2) (.int .i64 t316)) (fun _ hk => hk.2) (.int .i64 t317)) (fun _ h_ => h_.1)))); (case side4 => exact (Kd.R_reads' HO312.out).2.1); (case side5 => refine (Kd.R_reads' (e := 3) (base := w.heap.size) (ok := fun k_ => ((((((some k_ ≠ (.slice Ao109 t310.length co109 : Value).ownBlock ∧ some k_ ≠ (.slice Ao24 t240.length co24 : Value).ownBlock) ∧ some k_ ≠ (.slice Ao25 t243.length co25 : Value).ownBlock) ∧ some k_ ≠ (.slice Ao42 t293.length co42 : Value).ownBlock) ∧ some k_ ≠ (.slice Ao43 t294.length co43 : Value).ownBlock) ∧ some k_ ≠ (.slice Ao99 t299.length co99 : Value).ownBlock) ∧ some k_ ≠ (.slice Ao100 t302.length co100 : Value).ownBlock)) (n := t313.length) (c := co110) ?_).2.2; exact (by (with_reducible repeat (first | apply Kd.R_alloc | apply Kd.R_drewN | apply Kd.R_drew)); exact (Kd.R_mono (Kd.R_far (p := ⟨gb318, 4, none⟩) (Kd.R_far (p := ⟨gb318, 3, none⟩) (Kd.R_far (p := ⟨gb318, 2, none⟩) (Kd.R_far (p := ⟨gb318, 1, none⟩) (Kd.R_far (p := ⟨gb318, 0, none⟩) (Kd.R_types HO315.out BK318.out (by decide)) (fun _ hk => hk.2) (.slice Ao103 t307.length co103)) (fun _ hk => hk.2) (.slice Ao109 t310.length co109)) (fun _ hk => hk.2) (.slice Ao110 t313.length co110)) (fun _ hk => hk.2) (.int .i64 t316)) (fun _ hk => hk.2) (.int .i64 t317)) (fun _ h_ => h_.1)))); (case side6 => exact (Kd.R_reads' HO315.out).2.1); (case side7 => refine (Kd.R_reads' (e := 123) (base := w.heap.size) (ok := fun k_ => (((some k_ ≠ (.slice Ao29 t287.length co29 : Value).ownBlock ∧ some k_ ≠ (.slice Ao37 t292.length co37 : Value).ownBlock) ∧ some k_ ≠ (.slice Ao98 t296.length co98 : Value).ownBlock) ∧ some k_ ≠ (.slice Ao103 t307.length co103 : Value).ownBlock)) (n := t237.length) (c := co21) ?_).2.2; exact (by (with_reducible repeat (first | apply Kd.R_alloc | apply Kd.R_drewN | apply Kd.R_drew)); exact (Kd.R_mono (Kd.R_far (p := ⟨gb318, 4, none⟩) (Kd.R_far (p := ⟨gb318, 3, none⟩) (Kd.R_far (p := ⟨gb318, 2, none⟩) (Kd.R_far (p := ⟨gb318, 1, none⟩) (Kd.R_far (p := ⟨gb318, 0, none⟩) (Kd.R_types HO_249000.out BK318.out (by decide)) (fun _ hk => hk.2) (.slice Ao103 t307.length co103)) (fun _ hk => hk.2) (.slice Ao109 t310.length co109)) (fun _ hk => hk.2) (.slice Ao110 t313.length co110)) (fun _ hk => hk.2) (.int .i64 t316)) (fun _ hk => hk.2) (.int .i64 t317)) (fun _ h_ => h_.1)))); (case side8 => exact (Kd.R_reads' HO_249000.out).2.1); (case side9 => refine (Kd.R_reads' (e := 3) (base := w.heap.size) (ok := fun k_ => (((((some k_ ≠ (.slice Ao25 t243.length co25 : Value).ownBlock ∧ (some k_ ≠ (.slice Ao33 t288.length co33 : Value).ownBlock ∧ (some k_ ≠ (.slice Ao34 t289.length co34 : Value).ownBlock ∧ (some k_ ≠ (.slice Ao42 t293.length co42 : Value).ownBlock ∧ some k_ ≠ (.slice Ao43 t294.length co43 : Value).ownBlock)))) ∧ some k_ ≠ (.slice Ao99 t299.length co99 : Value).ownBlock) ∧ some k_ ≠ (.slice Ao100 t302.length co100 : Value).ownBlock) ∧ some k_ ≠ (.slice Ao109 t310.length co109 : Value).ownBlock) ∧ some k_ ≠ (.slice Ao110 t313.length co110 : Value).ownBlock)) (n := t240.length) (c := co24) ?_).2.2; exact (by (with_reducible repeat (first | apply Kd.R_alloc | apply Kd.R_drewN | apply Kd.R_drew)); exact (Kd.R_mono (Kd.R_far (p := ⟨gb318, 4, none⟩) (Kd.R_far (p := ⟨gb318, 3, none⟩) (Kd.R_far (p := ⟨gb318, 2, none⟩) (Kd.R_far (p := ⟨gb318, 1, none⟩) (Kd.R_far (p := ⟨gb318, 0, none⟩) (Kd.R_types HO_249001.out BK318.out (by decide)) (fun _ hk => hk.2) (.slice Ao103 t307.length co103)) (fun _ hk => hk.2) (.slice Ao109 t310.length co109)) (fun _ hk => hk.2) (.slice Ao110 t313.length co110)) (fun _ hk => hk.2) (.int .i64 t316)) (fun _ hk => hk.2) (.int .i64 t317)) (fun _ h_ => h_.1)))); (case side10 => exact (Kd.R_reads' HO_249001.out).2.1); (case side11 => refine (Kd.R_reads' (e := 3) (base := w.heap.size) (ok := fun k_ => (((((some k_ ≠ (.slice Ao24 t240.length co24 : Value).ownBlock ∧ (some k_ ≠ (.slice Ao33 t288.length co33 : Value).ownBlock ∧ (some k_ ≠ (.slice Ao34 t289.length co34 : Value).ownBlock ∧ (some k_ ≠ (.slice Ao42 t293.length co42 : Value).ownBlock ∧ some k_ ≠ (.slice Ao43 t294.length co43 : Value).ownBlock)))) ∧ some k_ ≠ (.slice Ao99 t299.length co99 : Value).ownBlock) ∧ some k_ ≠ (.slice Ao100 t302.length co100 : Value).ownBlock) ∧ some k_ ≠ (.slice Ao109 t310.length co109 : Value).ownBlock) ∧ some k_ ≠ (.slice Ao110 t313.length co110 : Value).ownBlock)) (n := t243.length) (c := co25) ?_).2.2; exact (by (with_reducible repeat (first | apply Kd.R_alloc | apply Kd.R_drewN | apply Kd.R_drew)); exact (Kd.R_mono (Kd.R_far (p := ⟨gb318, 4, none⟩) (Kd.R_far (p := ⟨gb318, 3, none⟩) (Kd.R_far (p := ⟨gb318, 2, none⟩) (Kd.R_far (p := ⟨gb318, 1, none⟩) (Kd.R_far (p := ⟨gb318, 0, none⟩) (Kd.R_types HO_249002.out BK318.out (by decide)) (fun _ hk => hk.2) (.slice Ao103 t307.length co103)) (fun _ hk => hk.2) (.slice Ao109 t310.length co109)) (fun _ hk => hk.2) (.slice Ao110 t313.length co110)) (fun _ hk => hk.2) (.int .i64 t316)) (fun _ hk => hk.2) (.int .i64 t317)) (fun _ h_ => h_.1)))); (case side12 => exact (Kd.R_reads' HO_249002.out).2.1); rintro e w114 ⟨rfl, hb⟩; refine ⟨_, rfl, ?_⟩; have n0_ := Aside0.mk (Kd.R_below (by (with_reducible repeat (first | apply Kd.R_alloc | apply Kd.R_drewN | apply Kd.R_drew)); exact (Kd.R_mono (Kd.R_far (p := ⟨gb318, 4, none⟩) (Kd.R_far (p := ⟨gb318, 3, none⟩) (Kd.R_far (p := ⟨gb318, 2, none⟩) (Kd.R_far (p := ⟨gb318, 1, none⟩) (Kd.R_far (p := ⟨gb318, 0, none⟩) (Kd.R_types HO_249000.out BK318.out (by decide)) (fun _ hk => hk.2) (.slice Ao103 t307.length co103)) (fun _ hk => hk.2) (.slice Ao109 t310.length co109)) (fun _ hk => hk.2) (.slice Ao110 t313.length co110)) (fun _ hk => hk.2) (.int .i64 t316)) (fun _ hk => hk.2) (.int .i64 t317)) (fun _ h_ => h_.1))) hb); have n1_ := Aside0.mk (Kd.R_below (by (with_reducible repeat (first | apply Kd.R_alloc | apply Kd.R_drewN | apply Kd.R_drew)); exact (Kd.R_mono (Kd.R_far (p := ⟨gb318, 4, none⟩) (Kd.R_far (p := ⟨gb318, 3, none⟩) (Kd.R_far (p := ⟨gb318, 2, none⟩) (Kd.R_far (p := ⟨gb318, 1, none⟩) (Kd.R_far (p := ⟨gb318, 0, none⟩) (Kd.R_types HO_249001.out BK318.out (by decide)) (fun _ hk => hk.2) (.slice Ao103 t307.length co103)) (fun _ hk => hk.2) (.slice Ao109 t310.length co109)) (fun _ hk => hk.2) (.slice Ao110 t313.length co110)) (fun _ hk => hk.2) (.int .i64 t316)) (fun _ hk => hk.2) (.int .i64 t317)) (fun _ h_ => h_.1))) hb); have n2_ := Aside0.mk (Kd.R_below (by (with_reducible repeat (first | apply Kd.R_alloc | apply Kd.R_drewN | apply Kd.R_drew)); exact (Kd.R_mono (Kd.R_far (p := ⟨gb318, 4, none⟩) (Kd.R_far (p := ⟨gb318, 3, none⟩) (Kd.R_far (p := ⟨gb318, 2, none⟩) (Kd.R_far (p := ⟨gb318, 1, none⟩) (Kd.R_far (p := ⟨gb318, 0, none⟩) (Kd.R_types HO_249002.out BK318.out (by decide)) (fun _ hk => hk.2) (.slice Ao103 t307.length co103)) (fun _ hk => hk.2) (.slice Ao109 t310.length co109)) (fun _ hk => hk.2) (.slice Ao110 t313.length co110)) (fun _ hk => hk.2) (.int .i64 t316)) (fun _ hk => hk.2) (.int .i64 t317)) (fun _ h_ => h_.1))) hb); have n3_ := Aside0.mk (Kd.R_below (by (with_reducible repeat (first | apply Kd.R_alloc | apply Kd.R_drewN | apply Kd.R_drew)); exact (Kd.R_mono (Kd.R_far (p := ⟨gb318, 4, none⟩) (Kd.R_far (p := ⟨gb318, 3, none⟩) (Kd.R_far (p := ⟨gb318, 2, none⟩) (Kd.R_far (p := ⟨gb318, 1, none⟩) (Kd.R_far (p := ⟨gb318, 0, none⟩) (Kd.R_types HO_273000.out BK318.out (by decide)) (fun _ hk => hk.2) (.slice Ao103 t307.length co103)) (fun _ hk => hk.2) (.slice Ao109 t310.length co109)) (fun _ hk => hk.2) (.slice Ao110 t313.length co110)) (fun _ hk => hk.2) (.int .i64 t316)) (fun _ hk => hk.2) (.int .i64 t317)) (fun _ h_ => h_.1))) hb); have n4_ := Aside0.mk (Kd.R_below (by (with_reducible repeat (first | apply Kd.R_alloc | apply Kd.R_drewN | apply Kd.R_drew)); exact (Kd.R_mono (Kd.R_far (p := ⟨gb318, 4, none⟩) (Kd.R_far (p := ⟨gb318, 3, none⟩) (Kd.R_far (p := ⟨gb318, 2, none⟩) (Kd.R_far (p := ⟨gb318, 1, none⟩) (Kd.R_far (p := ⟨gb318, 0, none⟩) (Kd.R_types HO_273001.out BK318.out (by decide)) (fun _ hk => hk.2) (.slice Ao103 t307.length co103)) (fun _ hk => hk.2) (.slice Ao109 t310.length co109)) (fun _ hk => hk.2) (.slice Ao110 t313.length co110)) (fun _ hk => hk.2) (.int .i64 t316)) (fun _ hk => hk.2) (.int .i64 t317)) (fun _ h_ => h_.1))) hb); have n5_ := Aside0.mk (Kd.R_below (by (with_reducible repeat (first | apply Kd.R_alloc | apply Kd.R_drewN | apply Kd.R_drew)); exact (Kd.R_mono (Kd.R_far (p := ⟨gb318, 4, none⟩) (Kd.R_far (p := ⟨gb318, 3, none⟩) (Kd.R_far (p := ⟨gb318, 2, none⟩) (Kd.R_far (p := ⟨gb318, 1, none⟩) (Kd.R_far (p := ⟨gb318, 0, none⟩) (Kd.R_types HO_273002.out BK318.out (by decide)) (fun _ hk => hk.2) (.slice Ao103 t307.length co103)) (fun _ hk => hk.2) (.slice Ao109 t310.length co109)) (fun _ hk => hk.2) (.slice Ao110 t313.length co110)) (fun _ hk => hk.2) (.int .i64 t316)) (fun _ hk => hk.2) (.int .i64 t317)) (fun _ h_ => h_.1))) hb); have n6_ := Aside0.mk (Kd.R_below (by (with_reducible repeat (first | apply Kd.R_alloc | apply Kd.R_drewN | apply Kd.R_drew)); exact (Kd.R_mono (Kd.R_far (p := ⟨gb318, 4, none⟩) (Kd.R_far (p := ⟨gb318, 3, none⟩) (Kd.R_far (p := ⟨gb318, 2, none⟩) (Kd.R_far (p := ⟨gb318, 1, none⟩) (Kd.R_far (p := ⟨gb318, 0, none⟩) (Kd.R_types HO309.out BK318.out (by decide)) (fun _ hk => hk.2) (.slice Ao103 t307.length co103)) (fun _ hk => hk.2) (.slice Ao109 t310.length co109)) (fun _ hk => hk.2) (.slice Ao110 t313.length co110)) (fun _ hk => hk.2) (.int .i64 t316)) (fun _ hk => hk.2) (.int .i64 t317)) (fun _ h_ => h_.1))) hb); have n7_ := Aside0.mk (Kd.R_below (by (with_reducible repeat (first | apply Kd.R_alloc | apply Kd.R_drewN | apply Kd.R_drew)); exact (Kd.R_mono (Kd.R_far (p := ⟨gb318, 4, none⟩) (Kd.R_far (p := ⟨gb318, 3, none⟩) (Kd.R_far (p := ⟨gb318, 2, none⟩) (Kd.R_far (p := ⟨gb318, 1, none⟩) (Kd.R_far (p := ⟨gb318, 0, none⟩) (Kd.R_types HO312.out BK318.out (by decide)) (fun _ hk => hk.2) (.slice Ao103 t307.length co103)) (fun _ hk => hk.2) (.slice Ao109 t310.length co109)) (fun _ hk => hk.2) (.slice Ao110 t313.length co110)) (fun _ hk => hk.2) (.int .i64 t316)) (fun _ hk => hk.2) (.int .i64 t317)) (fun _ h_ => h_.1))) hb); have n8_ := Aside0.mk (Kd.R_below (by (with_reducible repeat (first | apply Kd.R_alloc | apply Kd.R_drewN | apply Kd.R_drew)); exact (Kd.R_mono (Kd.R_far (p := ⟨gb318, 4, none⟩) (Kd.R_far (p := ⟨gb318, 3, none⟩) (Kd.R_far (p := ⟨gb318, 2, none⟩) (Kd.R_far (p := ⟨gb318, 1, none⟩) (Kd.R_far (p := ⟨gb318, 0, none⟩) (Kd.R_types HO315.out BK318.out (by decide)) (fun _ hk => hk.2) (.slice Ao103 t307.length co103)) (fun _ hk => hk.2) (.slice Ao109 t310.length co109)) (fun _ hk => hk.2) (.slice Ao110 t313.length co110)) (fun _ hk => hk.2) (.int .i64 t316)) (fun _ hk => hk.2) (.int .i64 t317)) (fun _ h_ => h_.1))) hb); have n9_ := Aside0.mk (blk_below (g := gb224) (o := .cells #[.slice A0_0 l0_0.length c0_0, .slice A0_1 l0_1.length c0_1, .slice A0_2 l0_2.length c0_2, .int .i64 a0_3, .int .i64 a0_4] 77 (0, 0)) (by (with_reducible repeat (first | refine blk_drewN ?_ _ | refine blk_drew ?_ | refine blk_alloc ?_ _)); refine blk_far ?_ NB224_318.out _; (with_reducible repeat (first | refine blk_drewN ?_ _ | refine blk_drew ?_ | refine blk_alloc ?_ _)); refine blk_far ?_ NB224_318.out _; (with_reducible repeat (first | refine blk_drewN ?_ _ | refine blk_drew ?_ | refine blk_alloc ?_ _)); refine blk_far ?_ NB224_318.out _; (with_reducible repeat (first | refine blk_drewN ?_ _ | refine blk_drew ?_ | refine blk_alloc ?_ _)); refine blk_far ?_ NB224_318.out _; (with_reducible repeat (first | refine blk_drewN ?_ _ | refine blk_drew ?_ | refine blk_alloc ?_ _)); refine blk_far ?_ NB224_318.out _; (with_reducible repeat (first | refine blk_drewN ?_ _ | refine blk_drew ?_ | refine blk_alloc ?_ _)); exact BK224.out) hb); have n10_ := Aside0.mk (blk_below (g := gb248) (o := .cells #[.slice Ao21 t237.length co21, .slice Ao24 t240.length co24, .slice Ao25 t243.length co25, .int .i64 t246, .int .i64 t247] 57 (0, 0)) (by (with_reducible repeat (first | refine blk_drewN ?_ _ | refine blk_drew ?_ | refine blk_alloc ?_ _)); refine blk_far ?_ NB248_318.out _; (with_reducible repeat (first | refine blk_drewN ?_ _ | refine blk_drew ?_ | refine blk_alloc ?_ _)); refine blk_far ?_ NB248_318.out _; (with_reducible repeat (first | refine blk_drewN ?_ _ | refine blk_drew ?_ | refine blk_alloc ?_ _)); refine blk_far ?_ NB248_318.out _; (with_reducible repeat (first | refine blk_drewN ?_ _ | refine blk_drew ?_ | refine blk_alloc ?_ _)); refine blk_far ?_ NB248_318.out _; (with_reducible repeat (first | refine blk_drewN ?_ _ | refine blk_drew ?_ | refine blk_alloc ?_ _)); refine blk_far ?_ NB248_318.out _; (with_reducible repeat (first | refine blk_drewN ?_ _ | refine blk_drew ?_ | refine blk_alloc ?_ _)); exact BK248.out) hb); have n11_ := Aside0.mk (blk_below (g := gb260) (o := .cells #[.slice Ao29 t287.length co29, .slice Ao33 t288.length co33, .slice Ao34 t289.length co34, .int .i64 t258, .int .i64 t259] 57 (0, 0)) (by (with_reducible repeat (first | refine blk_drewN ?_ _ | refine blk_drew ?_ | refine blk_alloc ?_ _)); refine blk_far ?_ NB260_318.out _; (with_reducible repeat (first | refine blk_drewN ?_ _ | refine blk_drew ?_ | refine blk_alloc ?_ _)); refine blk_far ?_ NB260_318.out _; (with_reducible repeat (first | refine blk_drewN ?_ _ | refine blk_drew ?_ | refine blk_alloc ?_ _)); refine blk_far ?_ NB260_318.out _; (with_reducible repeat (first | refine blk_drewN ?_ _ | refine blk_drew ?_ | refine blk_alloc ?_ _)); refine blk_far ?_ NB260_318.out _; (with_reducible repeat (first | refine blk_drewN ?_ _ | refine blk_drew ?_ | refine blk_alloc ?_ _)); refine blk_far ?_ NB260_318.out _; (with_reducible repeat (first | refine blk_drewN ?_ _ | refine blk_drew ?_ | refine blk_alloc ?_ _)); exact BK260.out) hb); have n12_ := Aside0.mk (blk_below (g := gb272) (o := .cells #[.slice Ao37 t292.length co37, .slice Ao42 t293.length co42, .slice Ao43 t294.length co43, .int .i64 t270, .int .i64 t271] 57 (0, 0)) (by (with_reducible repeat (first | refine blk_drewN ?_ _ | refine blk_drew ?_ | refine blk_alloc ?_ _)); refine blk_far ?_ NB272_318.out _; (with_reducible repeat (first | refine blk_drewN ?_ _ | refine blk_drew ?_ | refine blk_alloc ?_ _)); refine blk_far ?_ NB272_318.out _; (with_reducible repeat (first | refine blk_drewN ?_ _ | refine blk_drew ?_ | refine blk_alloc ?_ _)); refine blk_far ?_ NB272_318.out _; (with_reducible repeat (first | refine blk_drewN ?_ _ | refine blk_drew ?_ | refine blk_alloc ?_ _)); refine blk_far ?_ NB272_318.out _; (with_reducible repeat (first | refine blk_drewN ?_ _ | refine blk_drew ?_ | refine blk_alloc ?_ _)); refine blk_far ?_ NB272_318.out _; (with_reducible repeat (first | refine blk_drewN ?_ _ | refine blk_drew ?_ | refine blk_alloc ?_ _)); exact BK272.out) hb); have n13_ := Aside0.mk (blk_below (g := gb318) (o := .cells #[.slice Ao103 t307.length co103, .slice Ao109 t310.length co109, .slice Ao110 t313.length co110, .int .i64 t316, .int .i64 t317] 57 (0, 0)) (by (with_reducible repeat (first | refine blk_drewN ?_ _ | refine blk_drew ?_ | refine blk_alloc ?_ _)); refine blk_put (cs := #[.slice Ao103 t307.length co103, .slice Ao109 t310.length co109, .slice Ao110 t313.length co110, .int .i64 t316, .int .i64 0]) ?_ 4 _ rfl; (with_reducible repeat (first | refine blk_drewN ?_ _ | refine blk_drew ?_ | refine blk_alloc ?_ _)); refine blk_put (cs := #[.slice Ao103 t307.length co103, .slice Ao109 t310.length co109, .slice Ao110 t313.length co110, .int .i64 0, .int .i64 0]) ?_ 3 _ rfl; (with_reducible repeat (first | refine blk_drewN ?_ _ | refine blk_drew ?_ | refine blk_alloc ?_ _)); refine blk_put (cs := #[.slice Ao103 t307.length co103, .slice Ao109 t310.length co109, .slice none 0 0, .int .i64 0, .int .i64 0]) ?_ 2 _ rfl; (with_reducible repeat (first | refine blk_drewN ?_ _ | refine blk_drew ?_ | refine blk_alloc ?_ _)); refine blk_put (cs := #[.slice Ao103 t307.length co103, .slice none 0 0, .slice none 0 0, .int .i64 0, .int .i64 0]) ?_ 1 _ rfl; (with_reducible repeat (first | refine blk_drewN ?_ _ | refine blk_drew ?_ | refine blk_alloc ?_ _)); refine blk_put (cs := #[.slice none 0 0, .slice none 0 0, .slice none 0 0, .int .i64 0, .int .i64 0]) ?_ 0 _ rfl; (with_reducible repeat (first | refine blk_drewN ?_ _ | refine blk_drew ?_ | refine blk_alloc ?_ _)); exact BK318.out) hb); have n14_ := Aside0.mk (below_step (by repeat (first | (with_reducible first | exact HB.out | apply below_alloc | apply pw_below_drewN | apply below_drew1 | refine below_set ?_ GE224.out | refine below_set ?_ GE248.out | refine below_set ?_ GE260.out | refine below_set ?_ GE272.out | refine below_set ?_ GE318.out) | exact HB.out)) hb); clear HO_249000; clear HO_249001; clear HO_249002; clear HO_273000; clear HO_273001; clear HO_273002; clear HO309; clear HO312; clear HO315; clear BK224; clear BK248; clear BK260; clear BK272; clear BK318; clear HB; have HO_249000 := n0_; have HO_249001 := n1_; have HO_249002 := n2_; have HO_273000 := n3_; have HO_273001 := n4_; have HO_273002 := n5_; have HO309 := n6_; have HO312 := n7_; have HO315 := n8_; have BK224 := n9_; have BK248 := n10_; have BK260 := n11_; have BK272 := n12_; have BK318 := n13_; have HB := n14_; clear n0_ n1_ n2_ n3_ n4_ n5_ n6_ n7_ n8_ n9_ n10_ n11_ n12_ n13_ n14_; (try clear hb); (try clear hb2); (try clear hk); (try clear hi)))
               (try simp only [Act.put, List.setIfInBounds_toArray, List.set_cons_zero, List.set_cons_succ])
               go_cut [] (fun wc => ∃ (kq : Nat), Aside0 (laws_FnExactSpend.j7 kq t291 t292 t293 t294 t270 t271 = some r) ∧ Aside0 (kq ≤ kj86) ∧ Aside0 (Kd.R k123 123 wc w.heap.size (fun _ => True) (.slice Ao37 t292.length co37) t292) ∧ Aside0 (Kd.R (Kd.int .i64) 3 wc w.heap.size (fun k_ => some k_ ≠ ((.slice Ao43 t294.length co43) : Value).ownBlock) (.slice Ao42 t293.length co42) t293) ∧ Aside0 (Kd.R (Kd.int .i64) 3 wc w.heap.size (fun k_ => some k_ ≠ ((.slice Ao42 t293.length co42) : Value).ownBlock) (.slice Ao43 t294.length co43) t294) ∧ Aside0 (wc.heap[gb272]? = some (.cells #[(.slice Ao37 t292.length co37), (.slice Ao42 t293.length co42), (.slice Ao43 t294.length co43), .int .i64 t270, .int .i64 t271] 57 (0, 0))) ∧ Aside0 (Below w.heap.size w wc))
               case first =>
                have H := HC92.out
                clear HC92
                by_cases c115 : t319 = true
                ·
                 subst c115
                 have H1 : (laws_FnExactSpend.j7 kj86 t291 t292 t293 t294 t270 t271) = some r := by rw [if_pos rfl] at H; exact H
                 clear H
                 have H := H1
                 clear H1
                 have H' := Aside0.mk H
                 clear H
                 go_wp2
                 go_meet
                 case rel => exact ⟨_, H', ⟨by have := HJ2.out; have := HJ12.out; have := HJ48.out; have := HJ57.out; have := HJ73.out; have := HJ77.out; have := HJ86.out; first | omega | exact Nat.le_refl _⟩, ⟨by (try simp only [hl261000_57]); (try simp only [hl261001_57]); (try simp only [hl261002_57]); (try simp only [hl273000_77]); (try simp only [hl273001_77]); (try simp only [hl273002_77]); (with_reducible repeat (first | apply Kd.R_alloc | apply Kd.R_drewN | apply Kd.R_drew)); exact Kd.R_mono HO_273000.out (fun _ hk => trivial)⟩, ⟨by (try simp only [hl261000_57]); (try simp only [hl261001_57]); (try simp only [hl261002_57]); (try simp only [hl273000_77]); (try simp only [hl273001_77]); (try simp only [hl273002_77]); (with_reducible repeat (first | apply Kd.R_alloc | apply Kd.R_drewN | apply Kd.R_drew)); exact Kd.R_mono HO_273001.out (fun _ hk => hk.1.1.1.1.2.2.2.2)⟩, ⟨by (try simp only [hl261000_57]); (try simp only [hl261001_57]); (try simp only [hl261002_57]); (try simp only [hl273000_77]); (try simp only [hl273001_77]); (try simp only [hl273002_77]); (with_reducible repeat (first | apply Kd.R_alloc | apply Kd.R_drewN | apply Kd.R_drew)); exact Kd.R_mono HO_273002.out (fun _ hk => hk.1.1.1.1.2.2.2.2)⟩, ⟨by (try simp only [hl261000_57]); (try simp only [hl261001_57]); (try simp only [hl261002_57]); (try simp only [hl273000_77]); (try simp only [hl273001_77]); (try simp only [hl273002_77]); (with_reducible repeat (first | refine blk_drewN ?_ _ | refine blk_drew ?_ | refine blk_alloc ?_ _)); exact BK272.out⟩, ⟨by repeat (first | (with_reducible first | exact HB.out | apply below_alloc | apply pw_below_drewN | apply below_drew1 | refine below_set ?_ GE224.out | refine below_set ?_ GE248.out | refine below_set ?_ GE260.out | refine below_set ?_ GE272.out | refine below_set ?_ GE318.out) | exact HB.out)⟩⟩
                ·
                 replace c115 := Bool.eq_false_iff.mpr c115
                 subst c115
                 have H1 : (some false) = some r := by rw [if_neg (show ¬ (false = true) by decide)] at H; exact H
                 clear H
                 have H := H1
                 clear H1
                 obtain rfl := Option.some.inj H
                 go_wp2
                 go_ret
                 exact ⟨by first | rfl | (simp [errW_none, errW_some] <;> rfl) | (simp [*, errW_none, errW_some] <;> rfl), by repeat (first | (with_reducible first | exact HB.out | apply below_alloc | apply pw_below_drewN | apply below_drew1 | refine below_set ?_ GE224.out | refine below_set ?_ GE248.out | refine below_set ?_ GE260.out | refine below_set ?_ GE272.out | refine below_set ?_ GE318.out) | exact HB.out)⟩
               case rest =>
                clear HC92
                try clear c1
                try clear c2
                try clear p2
                try clear c3
                try clear c4
                try clear c5
                try clear c6
                try clear c7
                try clear c7b0
                try clear c8
                try clear c9
                try clear c10
                try clear c11
                try clear c12
                try clear c22
                try clear c30
                try clear c31
                try clear c38
                try clear c39
                try clear c40
                try clear c43
                try clear c44
                try clear c46
                try clear c51
                try clear c53
                try clear c56
                try clear c57
                try clear c58
                try clear c59
                try clear c60
                try clear c61
                try clear c64
                try clear c64b0
                try clear c66
                try clear c67
                try clear c68
                try clear c70
                try clear c71
                try clear c75
                try clear c79
                try clear c80
                try clear c81
                try clear c86
                try clear c86b0
                try clear c88
                try clear c88b0
                try clear c88b1
                try clear c93
                try clear c94
                try clear c95
                try clear c104
                try clear c105
                try clear c106
                try clear c107
                try clear c111
                try clear c112
                try clear c115
                try clear hcz108_0
                try clear hcz108_1
                try clear hcz108_2
                try clear hcz108_3
                try clear hcz108_4
                try clear hcz113_0
                try clear hcz113_1
                try clear hcz113_2
                try clear hcz113_3
                try clear hcz113_4
                try clear hcz14_0
                try clear hcz14_1
                try clear hcz14_2
                try clear hcz14_3
                try clear hcz14_4
                try clear hcz23_0
                try clear hcz23_1
                try clear hcz23_2
                try clear hcz23_3
                try clear hcz23_4
                try clear hcz26_0
                try clear hcz26_1
                try clear hcz26_2
                try clear hcz26_3
                try clear hcz26_4
                try clear hcz32_0
                try clear hcz32_1
                try clear hcz32_2
                try clear hcz32_3
                try clear hcz32_4
                try clear hcz41_0
                try clear hcz41_1
                try clear hcz41_2
                try clear hcz41_3
                try clear hcz41_4
                try clear hcz44_0
                try clear hcz44_1
                try clear hcz44_2
                try clear hcz44_3
                try clear hcz44_4
                try clear hcz5_0
                try clear hcz5_1
                try clear hcz5_2
                try clear hcz5_3
                try clear hcz5_4
                try clear hcz62_0
                try clear hcz62_1
                try clear hcz62_2
                try clear hcz62_3
                try clear hcz62_4
                try clear hcz69_0
                try clear hcz69_1
                try clear hcz69_2
                try clear hcz69_3
                try clear hcz69_4
                try clear hcz72_0
                try clear hcz72_1
                try clear hcz72_2
                try clear hcz72_3
                try clear hcz72_4
                try clear hcz82_0
                try clear hcz82_1
                try clear hcz82_2
                try clear hcz82_3
                try clear hcz82_4
                try clear hcz84_0
                try clear hcz84_1
                try clear hcz84_2
                try clear hcz84_3
                try clear hcz84_4
                try clear hcz96_0
                try clear hcz96_1
                try clear hcz96_2
                try clear hcz96_3
                try clear hcz96_4
                try clear hfz108_0
                try clear hfz108_1
                try clear hfz108_2
                try clear hfz108_3
                try clear hfz108_4
                try clear hfz113_0
                try clear hfz113_1
                try clear hfz113_2
                try clear hfz113_3
                try clear hfz113_4
                try clear hfz14_0
                try clear hfz14_1
                try clear hfz14_2
                try clear hfz14_3
                try clear hfz14_4
                try clear hfz23_0
                try clear hfz23_1
                try clear hfz23_2
                try clear hfz23_3
                try clear hfz23_4
                try clear hfz26_0
                try clear hfz26_1
                try clear hfz26_2
                try clear hfz26_3
                try clear hfz26_4
                try clear hfz32_0
                try clear hfz32_1
                try clear hfz32_2
                try clear hfz32_3
                try clear hfz32_4
                try clear hfz41_0
                try clear hfz41_1
                try clear hfz41_2
                try clear hfz41_3
                try clear hfz41_4
                try clear hfz44_0
                try clear hfz44_1
                try clear hfz44_2
                try clear hfz44_3
                try clear hfz44_4
                try clear hfz5_0
                try clear hfz5_1
                try clear hfz5_2
                try clear hfz5_3
                try clear hfz5_4
                try clear hfz62_0
                try clear hfz62_1
                try clear hfz62_2
                try clear hfz62_3
                try clear hfz62_4
                try clear hfz69_0
                try clear hfz69_1
                try clear hfz69_2
                try clear hfz69_3
                try clear hfz69_4
                try clear hfz72_0
                try clear hfz72_1
                try clear hfz72_2
                try clear hfz72_3
                try clear hfz72_4
                try clear hfz82_0
                try clear hfz82_1
                try clear hfz82_2
                try clear hfz82_3
                try clear hfz82_4
                try clear hfz84_0
                try clear hfz84_1
                try clear hfz84_2
                try clear hfz84_3
                try clear hfz84_4
                try clear hfz96_0
                try clear hfz96_1
                try clear hfz96_2
                try clear hfz96_3
                try clear hfz96_4
                try clear p2
                obtain ⟨kq, HA, HJ91, HO_273000, HO_273001, HO_273002, BK272, HB⟩ := hcut
                cases kq with
                | zero => exact absurd HA.out (by simp [laws_FnExactSpend.j7])
                | succ kj91 =>
                 have H := HA.out
                 clear HA
                 simp only [laws_FnExactSpend.j7] at H
                 replace H := Option.bind_eq_some_iff.mp H
                 obtain ⟨t320, A1160, H⟩ := H
                 replace H : (if t320 < 0 then (some false) else (if t320 = t291 then (some true) else (some false))) = some r := H
                 have A116 := Aside0.mk A1160
                 clear A1160
                 by_cases c117 : t320 < 0
                 ·
                  rw [if_pos c117] at H
                  have c117b0 : decide (t320 < 0) = true := decide_eq_true c117
                  clear c117
                  obtain rfl := Option.some.inj H
                  have hcz118_0 : wc.cell? ⟨gb272, 0, none⟩ = some (.slice Ao37 t292.length co37) := (blk_cell BK272.out 0).trans rfl
                  have hcz118_1 : wc.cell? ⟨gb272, 1, none⟩ = some (.slice Ao42 t293.length co42) := (blk_cell BK272.out 1).trans rfl
                  have hcz118_2 : wc.cell? ⟨gb272, 2, none⟩ = some (.slice Ao43 t294.length co43) := (blk_cell BK272.out 2).trans rfl
                  have hcz118_3 : wc.cell? ⟨gb272, 3, none⟩ = some (.int .i64 t270) := (blk_cell BK272.out 3).trans rfl
                  have hcz118_4 : wc.cell? ⟨gb272, 4, none⟩ = some (.int .i64 t271) := (blk_cell BK272.out 4).trans rfl
                  have hfz118_0 := blk_frozen BK272.out 0
                  have hfz118_1 := blk_frozen BK272.out 1
                  have hfz118_2 := blk_frozen BK272.out 2
                  have hfz118_3 := blk_frozen BK272.out 3
                  have hfz118_4 := blk_frozen BK272.out 4
                  go_wp2_with (first | ((with_reducible refine gate_callee (f := 44) rfl ?_); refine goesL_ (some 63) rfl rfl Try.func44 (by kernel_rfl) rfl #[.agg #[.slice Ao37 t292.length co37, .slice Ao42 t293.length co42, .slice Ao43 t294.length co43, .int .i64 t270, .int .i64 t271], .int .i64 1] rfl (by (try simp only [List.map_toArray, List.map_cons, List.map_nil]); first | done | rfl | (simp only [List.length_drop, List.length_take]; rfl)) ?_; (with_reducible refine (laws_heldMemory.calls kj91 _ _ t292 _ _ t293 _ _ t294 t270 t271 1 t320 _ ?side1 ?side2 ?side3 ?side4 ?side5 ?side6 A116.out).mono ?_); (case side1 => repeat (first | exact (Kd.R_reads' HO_273000.out).2.2 | (with_reducible refine Kd.C_alloc ?_ _) | (with_reducible refine Kd.C_drewN ?_ _) | (with_reducible refine Kd.C_drew ?_))); (case side2 => exact (Kd.R_reads' HO_273000.out).2.1); (case side3 => repeat (first | exact (Kd.R_reads' HO_273001.out).2.2 | (with_reducible refine Kd.C_alloc ?_ _) | (with_reducible refine Kd.C_drewN ?_ _) | (with_reducible refine Kd.C_drew ?_))); (case side4 => exact (Kd.R_reads' HO_273001.out).2.1); (case side5 => repeat (first | exact (Kd.R_reads' HO_273002.out).2.2 | (with_reducible refine Kd.C_alloc ?_ _) | (with_reducible refine Kd.C_drewN ?_ _) | (with_reducible refine Kd.C_drew ?_))); (case side6 => exact (Kd.R_reads' HO_273002.out).2.1); rintro e w119 ⟨rfl, hb⟩; refine ⟨_, rfl, ?_⟩; have n0_ := Aside0.mk (Kd.R_below (by (with_reducible repeat (first | apply Kd.R_alloc | apply Kd.R_drewN | apply Kd.R_drew)); exact HO_273000.out) hb); have n1_ := Aside0.mk (Kd.R_below (by (with_reducible repeat (first | apply Kd.R_alloc | apply Kd.R_drewN | apply Kd.R_drew)); exact HO_273001.out) hb); have n2_ := Aside0.mk (Kd.R_below (by (with_reducible repeat (first | apply Kd.R_alloc | apply Kd.R_drewN | apply Kd.R_drew)); exact HO_273002.out) hb); have n3_ := Aside0.mk (below_step (by repeat (first | (with_reducible first | exact HB.out | apply below_alloc | apply pw_below_drewN | apply below_drew1) | exact HB.out)) hb); clear HO_273000; clear HO_273001; clear HO_273002; clear HB; have HO_273000 := n0_; have HO_273001 := n1_; have HO_273002 := n2_; have HB := n3_; clear n0_ n1_ n2_ n3_; (try clear hb); (try clear hb2); (try clear hk); (try clear hi)))
                  go_ret
                  exact ⟨by first | rfl | (simp [errW_none, errW_some] <;> rfl) | (simp [*, errW_none, errW_some] <;> rfl), by repeat (first | (with_reducible first | exact HB.out | apply below_alloc | apply pw_below_drewN | apply below_drew1) | exact HB.out)⟩
                 ·
                  rw [if_neg c117] at H
                  have c117b0 : decide (t320 < 0) = false := decide_eq_false c117
                  clear c117
                  by_cases c120 : t320 = t291
                  ·
                   rw [if_pos c120] at H
                   have c120b0 : (t320 == t291) = true := beq_iff_eq.mpr c120
                   have c120b1 : (t320 != t291) = false := bne_eq_false_iff_eq.mpr c120
                   clear c120
                   obtain rfl := Option.some.inj H
                   have hcz121_0 : wc.cell? ⟨gb272, 0, none⟩ = some (.slice Ao37 t292.length co37) := (blk_cell BK272.out 0).trans rfl
                   have hcz121_1 : wc.cell? ⟨gb272, 1, none⟩ = some (.slice Ao42 t293.length co42) := (blk_cell BK272.out 1).trans rfl
                   have hcz121_2 : wc.cell? ⟨gb272, 2, none⟩ = some (.slice Ao43 t294.length co43) := (blk_cell BK272.out 2).trans rfl
                   have hcz121_3 : wc.cell? ⟨gb272, 3, none⟩ = some (.int .i64 t270) := (blk_cell BK272.out 3).trans rfl
                   have hcz121_4 : wc.cell? ⟨gb272, 4, none⟩ = some (.int .i64 t271) := (blk_cell BK272.out 4).trans rfl
                   have hfz121_0 := blk_frozen BK272.out 0
                   have hfz121_1 := blk_frozen BK272.out 1
                   have hfz121_2 := blk_frozen BK272.out 2
                   have hfz121_3 := blk_frozen BK272.out 3
                   have hfz121_4 := blk_frozen BK272.out 4
                   go_wp2_with (first | ((with_reducible refine gate_callee (f := 44) rfl ?_); refine goesL_ (some 63) rfl rfl Try.func44 (by kernel_rfl) rfl #[.agg #[.slice Ao37 t292.length co37, .slice Ao42 t293.length co42, .slice Ao43 t294.length co43, .int .i64 t270, .int .i64 t271], .int .i64 1] rfl (by (try simp only [List.map_toArray, List.map_cons, List.map_nil]); first | done | rfl | (simp only [List.length_drop, List.length_take]; rfl)) ?_; (with_reducible refine (laws_heldMemory.calls kj91 _ _ t292 _ _ t293 _ _ t294 t270 t271 1 t320 _ ?side1 ?side2 ?side3 ?side4 ?side5 ?side6 A116.out).mono ?_); (case side1 => repeat (first | exact (Kd.R_reads' HO_273000.out).2.2 | (with_reducible refine Kd.C_alloc ?_ _) | (with_reducible refine Kd.C_drewN ?_ _) | (with_reducible refine Kd.C_drew ?_))); (case side2 => exact (Kd.R_reads' HO_273000.out).2.1); (case side3 => repeat (first | exact (Kd.R_reads' HO_273001.out).2.2 | (with_reducible refine Kd.C_alloc ?_ _) | (with_reducible refine Kd.C_drewN ?_ _) | (with_reducible refine Kd.C_drew ?_))); (case side4 => exact (Kd.R_reads' HO_273001.out).2.1); (case side5 => repeat (first | exact (Kd.R_reads' HO_273002.out).2.2 | (with_reducible refine Kd.C_alloc ?_ _) | (with_reducible refine Kd.C_drewN ?_ _) | (with_reducible refine Kd.C_drew ?_))); (case side6 => exact (Kd.R_reads' HO_273002.out).2.1); rintro e w122 ⟨rfl, hb⟩; refine ⟨_, rfl, ?_⟩; have n0_ := Aside0.mk (Kd.R_below (by (with_reducible repeat (first | apply Kd.R_alloc | apply Kd.R_drewN | apply Kd.R_drew)); exact HO_273000.out) hb); have n1_ := Aside0.mk (Kd.R_below (by (with_reducible repeat (first | apply Kd.R_alloc | apply Kd.R_drewN | apply Kd.R_drew)); exact HO_273001.out) hb); have n2_ := Aside0.mk (Kd.R_below (by (with_reducible repeat (first | apply Kd.R_alloc | apply Kd.R_drewN | apply Kd.R_drew)); exact HO_273002.out) hb); have n3_ := Aside0.mk (below_step (by repeat (first | (with_reducible first | exact HB.out | apply below_alloc | apply pw_below_drewN | apply below_drew1) | exact HB.out)) hb); clear HO_273000; clear HO_273001; clear HO_273002; clear HB; have HO_273000 := n0_; have HO_273001 := n1_; have HO_273002 := n2_; have HB := n3_; clear n0_ n1_ n2_ n3_; (try clear hb); (try clear hb2); (try clear hk); (try clear hi)))
                   go_ret
                   exact ⟨by first | rfl | (simp [errW_none, errW_some] <;> rfl) | (simp [*, errW_none, errW_some] <;> rfl), by repeat (first | (with_reducible first | exact HB.out | apply below_alloc | apply pw_below_drewN | apply below_drew1) | exact HB.out)⟩
                  ·
                   rw [if_neg c120] at H
                   have c120b0 : (t320 == t291) = false := beq_eq_false_iff_ne.mpr c120
                   have c120b1 : (t320 != t291) = true := bne_iff_ne.mpr c120
                   obtain rfl := Option.some.inj H
                   have hcz123_0 : wc.cell? ⟨gb272, 0, none⟩ = some (.slice Ao37 t292.length co37) := (blk_cell BK272.out 0).trans rfl
                   have hcz123_1 : wc.cell? ⟨gb272, 1, none⟩ = some (.slice Ao42 t293.length co42) := (blk_cell BK272.out 1).trans rfl
                   have hcz123_2 : wc.cell? ⟨gb272, 2, none⟩ = some (.slice Ao43 t294.length co43) := (blk_cell BK272.out 2).trans rfl
                   have hcz123_3 : wc.cell? ⟨gb272, 3, none⟩ = some (.int .i64 t270) := (blk_cell BK272.out 3).trans rfl
                   have hcz123_4 : wc.cell? ⟨gb272, 4, none⟩ = some (.int .i64 t271) := (blk_cell BK272.out 4).trans rfl
                   have hfz123_0 := blk_frozen BK272.out 0
                   have hfz123_1 := blk_frozen BK272.out 1
                   have hfz123_2 := blk_frozen BK272.out 2
                   have hfz123_3 := blk_frozen BK272.out 3
                   have hfz123_4 := blk_frozen BK272.out 4
                   go_wp2_with (first | ((with_reducible refine gate_callee (f := 44) rfl ?_); refine goesL_ (some 63) rfl rfl Try.func44 (by kernel_rfl) rfl #[.agg #[.slice Ao37 t292.length co37, .slice Ao42 t293.length co42, .slice Ao43 t294.length co43, .int .i64 t270, .int .i64 t271], .int .i64 1] rfl (by (try simp only [List.map_toArray, List.map_cons, List.map_nil]); first | done | rfl | (simp only [List.length_drop, List.length_take]; rfl)) ?_; (with_reducible refine (laws_heldMemory.calls kj91 _ _ t292 _ _ t293 _ _ t294 t270 t271 1 t320 _ ?side1 ?side2 ?side3 ?side4 ?side5 ?side6 A116.out).mono ?_); (case side1 => repeat (first | exact (Kd.R_reads' HO_273000.out).2.2 | (with_reducible refine Kd.C_alloc ?_ _) | (with_reducible refine Kd.C_drewN ?_ _) | (with_reducible refine Kd.C_drew ?_))); (case side2 => exact (Kd.R_reads' HO_273000.out).2.1); (case side3 => repeat (first | exact (Kd.R_reads' HO_273001.out).2.2 | (with_reducible refine Kd.C_alloc ?_ _) | (with_reducible refine Kd.C_drewN ?_ _) | (with_reducible refine Kd.C_drew ?_))); (case side4 => exact (Kd.R_reads' HO_273001.out).2.1); (case side5 => repeat (first | exact (Kd.R_reads' HO_273002.out).2.2 | (with_reducible refine Kd.C_alloc ?_ _) | (with_reducible refine Kd.C_drewN ?_ _) | (with_reducible refine Kd.C_drew ?_))); (case side6 => exact (Kd.R_reads' HO_273002.out).2.1); rintro e w124 ⟨rfl, hb⟩; refine ⟨_, rfl, ?_⟩; have n0_ := Aside0.mk (Kd.R_below (by (with_reducible repeat (first | apply Kd.R_alloc | apply Kd.R_drewN | apply Kd.R_drew)); exact HO_273000.out) hb); have n1_ := Aside0.mk (Kd.R_below (by (with_reducible repeat (first | apply Kd.R_alloc | apply Kd.R_drewN | apply Kd.R_drew)); exact HO_273001.out) hb); have n2_ := Aside0.mk (Kd.R_below (by (with_reducible repeat (first | apply Kd.R_alloc | apply Kd.R_drewN | apply Kd.R_drew)); exact HO_273002.out) hb); have n3_ := Aside0.mk (below_step (by repeat (first | (with_reducible first | exact HB.out | apply below_alloc | apply pw_below_drewN | apply below_drew1) | exact HB.out)) hb); clear HO_273000; clear HO_273001; clear HO_273002; clear HB; have HO_273000 := n0_; have HO_273001 := n1_; have HO_273002 := n2_; have HB := n3_; clear n0_ n1_ n2_ n3_; (try clear hb); (try clear hb2); (try clear hk); (try clear hi)))
                   go_ret
                   exact ⟨by first | rfl | (simp [errW_none, errW_some] <;> rfl) | (simp [*, errW_none, errW_some] <;> rfl), by repeat (first | (with_reducible first | exact HB.out | apply below_alloc | apply pw_below_drewN | apply below_drew1) | exact HB.out)⟩

end Go.Proofs.Ytaoelobgpilmjaa.PFnExactSpend
