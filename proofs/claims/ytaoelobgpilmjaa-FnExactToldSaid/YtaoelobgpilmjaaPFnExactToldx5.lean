/- Written by a program of this session (a turned copy of the kit's print): a contract for each Go function. No condition beside those in each statement. -/
import Derived.Test.YtaoelobgpilmjaaPFnExactToldx0
import Derived.Test.YtaoelobgpilmjaaPFnExactToldx1
import Derived.Test.YtaoelobgpilmjaaPFnExactToldx2
import Derived.Test.YtaoelobgpilmjaaPFnExactToldx3
import Derived.Test.YtaoelobgpilmjaaPFnExactToldx4
namespace Go.Proofs.Ytaoelobgpilmjaa.PFnExactTold
open Go.RowKit Go.Proofs.YtaoelobgpilmjaaW.PrintWords Go.Proofs.YtaoelobgpilmjaaW.PrintLast Go.Proofs.YtaoelobgpilmjaaW.PrintMore
attribute [local go_sem] max2_int min2_int max_two min_two max_three min_three max_four min_four   -- for this text's walks alone
set_option linter.unusedVariables false
set_option linter.unusedSimpArgs false

set_option maxHeartbeats 8000000 in
set_option maxRecDepth 100000 in
theorem laws_FnExactTold.calls (k : Nat) (A0_0 : Option Addr) (c0_0 : Nat) (l0_0 : List (S129)) (A0_1 : Option Addr) (c0_1 : Nat) (l0_1 : List Int) (A0_2 : Option Addr) (c0_2 : Nat) (l0_2 : List Int) (a0_3 : Int) (a0_4 : Int) (a1 : Int) (r : Bool) (w : World) (hr0_0 : Kd.C k129 w A0_0 l0_0.length l0_0) (hc0_0 : l0_0.length ≤ c0_0) (hr0_1 : Kd.C (Kd.int .i64) w A0_1 l0_1.length l0_1) (hc0_1 : l0_1.length ≤ c0_1) (hr0_2 : Kd.C (Kd.int .i64) w A0_2 l0_2.length l0_2) (hc0_2 : l0_2.length ≤ c0_2) (h : laws_FnExactTold.f k l0_0 l0_1 l0_2 a0_3 a0_4 a1 = some r) :
  Calls Try.prog 10 #[.agg #[.slice A0_0 l0_0.length c0_0, .slice A0_1 l0_1.length c0_1, .slice A0_2 l0_2.length c0_2, .int .i64 a0_3, .int .i64 a0_4], .int .i64 a1] w fun e w' => e = .returned (.bool r) ∧ Below w.heap.size w w' := by
 have hu77 := Try.underlying77
 have hu57 := Try.underlying57
 have HR0_0 := Aside0.mk hr0_0
 have HC0_0 := Aside0.mk hc0_0
 clear hr0_0 hc0_0
 have HR0_1 := Aside0.mk hr0_1
 have HC0_1 := Aside0.mk hc0_1
 clear hr0_1 hc0_1
 have HR0_2 := Aside0.mk hr0_2
 have HC0_2 := Aside0.mk hc0_2
 clear hr0_2 hc0_2
 have HB := Aside0.mk (Below.refl w.heap.size w)
 have H : ((laws_szMemory.f l0_0 l0_1 l0_2 a0_3 a0_4 1048576).bind fun t231 => (if t231 < 0 then (some true) else (laws_FnExactTold.j0 k a1 l0_0 l0_1 l0_2 a0_3 a0_4))) = some r := h
 clear h
 replace H := Option.bind_eq_some_iff.mp H
 obtain ⟨t231, A30, H⟩ := H
 replace H : (if t231 < 0 then (some true) else (laws_FnExactTold.j0 k a1 l0_0 l0_1 l0_2 a0_3 a0_4)) = some r := H
 have A3 := Aside0.mk A30
 clear A30
 have HC4 := Aside0.mk H
 clear H
 go_enter Try.func10, Try.ntmps10
 go_upto_if 17 with (first | ((with_reducible refine gate_dst (N := 2) rfl ?_); refine box_event ?hg (N := 2) ?hd (cs := #[.slice A0_0 l0_0.length c0_0, .slice A0_1 l0_1.length c0_1, .slice A0_2 l0_2.length c0_2, .int .i64 a0_3, .int .i64 a0_4]) (t := 77) ?hr ?_; (case hd => rfl); (case hg => rfl); (case hr => first | (go_simp; done) | (go_simp; rfl)); intro gb230 hg w5 hbox hb; have n0_ := Aside0.mk (below_step (by repeat (first | (with_reducible first | exact HB.out | apply below_alloc | apply pw_below_drewN | apply below_drew1) | exact HB.out)) hb); have n1_ := Aside0.mk (hbox); have n2_ := Aside0.mk ((by rw [hg]; exact (below_size (by repeat (first | (with_reducible first | exact HB.out | apply below_alloc | apply pw_below_drewN | apply below_drew1) | exact HB.out))) : w.heap.size ≤ gb230)); have n3_ := Aside0.mk ((by rw [hg]; exact (below_size (by repeat (first | (with_reducible first | exact HB.out | apply below_alloc | apply pw_below_drewN | apply below_drew1) | exact HB.out))) : w.heap.size ≤ gb230)); clear HB; have HB := n0_; have BK230 := n1_; have GW230 := n2_; have GE230 := n3_; clear n0_ n1_ n2_ n3_; clear hb hbox hg; have hcz6_0 : w5.cell? ⟨gb230, 0, none⟩ = some (.slice A0_0 l0_0.length c0_0) := (blk_cell BK230.out 0).trans rfl; have hcz6_1 : w5.cell? ⟨gb230, 1, none⟩ = some (.slice A0_1 l0_1.length c0_1) := (blk_cell BK230.out 1).trans rfl; have hcz6_2 : w5.cell? ⟨gb230, 2, none⟩ = some (.slice A0_2 l0_2.length c0_2) := (blk_cell BK230.out 2).trans rfl; have hcz6_3 : w5.cell? ⟨gb230, 3, none⟩ = some (.int .i64 a0_3) := (blk_cell BK230.out 3).trans rfl; have hcz6_4 : w5.cell? ⟨gb230, 4, none⟩ = some (.int .i64 a0_4) := (blk_cell BK230.out 4).trans rfl; have hfz6_0 := blk_frozen BK230.out 0; have hfz6_1 := blk_frozen BK230.out 1; have hfz6_2 := blk_frozen BK230.out 2; have hfz6_3 := blk_frozen BK230.out 3; have hfz6_4 := blk_frozen BK230.out 4) | ((with_reducible refine gate_callee (f := 51) rfl ?_); refine goesL_ (some 15) rfl rfl Try.func51 (by kernel_rfl) rfl #[.agg #[.slice A0_0 l0_0.length c0_0, .slice A0_1 l0_1.length c0_1, .slice A0_2 l0_2.length c0_2, .int .i64 a0_3, .int .i64 a0_4], .int .i64 1048576] rfl (by (try simp only [List.map_toArray, List.map_cons, List.map_nil]); first | done | rfl | (simp only [List.length_drop, List.length_take]; rfl)) ?_; (with_reducible refine (laws_szMemory.calls _ _ l0_0 _ _ l0_1 _ _ l0_2 a0_3 a0_4 1048576 t231 _ ?side1 ?side2 ?side3 ?side4 ?side5 ?side6 A3.out).mono ?_); (case side1 => repeat (first | exact (Kd.C_below HR0_0.out HB.out) | (with_reducible refine Kd.C_alloc ?_ _) | (with_reducible refine Kd.C_drewN ?_ _) | (with_reducible refine Kd.C_drew ?_))); (case side2 => exact HC0_0.out); (case side3 => repeat (first | exact (Kd.C_below HR0_1.out HB.out) | (with_reducible refine Kd.C_alloc ?_ _) | (with_reducible refine Kd.C_drewN ?_ _) | (with_reducible refine Kd.C_drew ?_))); (case side4 => exact HC0_1.out); (case side5 => repeat (first | exact (Kd.C_below HR0_2.out HB.out) | (with_reducible refine Kd.C_alloc ?_ _) | (with_reducible refine Kd.C_drewN ?_ _) | (with_reducible refine Kd.C_drew ?_))); (case side6 => exact HC0_2.out); rintro e w7 ⟨rfl, hb⟩; refine ⟨_, rfl, ?_⟩; have n0_ := Aside0.mk (blk_below (g := gb230) (o := .cells #[.slice A0_0 l0_0.length c0_0, .slice A0_1 l0_1.length c0_1, .slice A0_2 l0_2.length c0_2, .int .i64 a0_3, .int .i64 a0_4] 77 (0, 0)) (by (with_reducible repeat (first | refine blk_drewN ?_ _ | refine blk_drew ?_ | refine blk_alloc ?_ _)); exact BK230.out) hb); have n1_ := Aside0.mk (below_step (by repeat (first | (with_reducible first | exact HB.out | apply below_alloc | apply pw_below_drewN | apply below_drew1 | refine below_set ?_ GE230.out) | exact HB.out)) hb); clear BK230; clear HB; have BK230 := n0_; have HB := n1_; clear n0_ n1_; (try clear hb); (try clear hb2); (try clear hk); (try clear hi)))
 (try simp only [Act.put, List.setIfInBounds_toArray, List.set_cons_zero, List.set_cons_succ])
 go_cut [] (fun wc => ∃ (kq : Nat), Aside0 (laws_FnExactTold.j0 kq a1 l0_0 l0_1 l0_2 a0_3 a0_4 = some r) ∧ Aside0 (kq ≤ k) ∧ Aside0 (wc.heap[gb230]? = some (.cells #[(.slice A0_0 l0_0.length c0_0), (.slice A0_1 l0_1.length c0_1), (.slice A0_2 l0_2.length c0_2), .int .i64 a0_3, .int .i64 a0_4] 77 (0, 0))) ∧ Aside0 (Below w.heap.size w wc))
 case first =>
  have H := HC4.out
  clear HC4
  by_cases c8 : t231 < 0
  ·
   rw [if_pos c8] at H
   have c8b0 : decide (t231 < 0) = true := decide_eq_true c8
   clear c8
   (first | rw [c8b0] | (simp only [i64_w, i32_w]; rw [c8b0]) | skip)
   obtain rfl := Option.some.inj H
   go_wp2
   go_ret
   exact ⟨by first | rfl | (simp [errW_none, errW_some] <;> rfl) | (simp [*, errW_none, errW_some] <;> rfl), by repeat (first | (with_reducible first | exact HB.out | apply below_alloc | apply pw_below_drewN | apply below_drew1 | refine below_set ?_ GE230.out) | exact HB.out)⟩
  ·
   rw [if_neg c8] at H
   have c8b0 : decide (t231 < 0) = false := decide_eq_false c8
   clear c8
   (first | rw [c8b0] | (simp only [i64_w, i32_w]; rw [c8b0]) | skip)
   have H' := Aside0.mk H
   clear H
   go_wp2
   go_meet
   case rel => exact ⟨_, H', ⟨by first | omega | exact Nat.le_refl _⟩, ⟨by (with_reducible repeat (first | refine blk_drewN ?_ _ | refine blk_drew ?_ | refine blk_alloc ?_ _)); exact BK230.out⟩, ⟨by repeat (first | (with_reducible first | exact HB.out | apply below_alloc | apply pw_below_drewN | apply below_drew1 | refine below_set ?_ GE230.out) | exact HB.out)⟩⟩
 case rest =>
  clear HC4
  try clear c1
  try clear p2
  try clear c5
  try clear c8
  try clear c8b0
  try clear hcz6_0
  try clear hcz6_1
  try clear hcz6_2
  try clear hcz6_3
  try clear hcz6_4
  try clear hfz6_0
  try clear hfz6_1
  try clear hfz6_2
  try clear hfz6_3
  try clear hfz6_4
  obtain ⟨kq, HA, HJ3, BK230, HB⟩ := hcut
  cases kq with
  | zero => exact absurd HA.out (by simp [laws_FnExactTold.j0])
  | succ kj3 =>
   have H := HA.out
   clear HA
   simp only [laws_FnExactTold.j0] at H
   replace H := Option.bind_eq_some_iff.mp H
   obtain ⟨⟨t232, t235, t238, t241, t242⟩, A90, H⟩ := H
   replace H : ((spec_Told.f t232 t235 t238 t241 t242 a1).bind fun bt243 => ((laws_toMemory.f kj3 l0_0 l0_1 l0_2 a0_3 a0_4).bind fun bt255 => ((impl_Told.f bt255.1 bt255.2.1 bt255.2.2.1 bt255.2.2.2.1 bt255.2.2.2.2 a1).bind fun bt267 => ((laws_eqMemory.f kj3 bt267.1 bt267.2.1 bt267.2.2.1 bt267.2.2.2.1 bt267.2.2.2.2 bt243.1 bt243.2.1 bt243.2.2.1 bt243.2.2.2.1 bt243.2.2.2.2).bind fun t279 => (if t279 = true then (laws_FnExactTold.j1 kj3 a1 l0_0 l0_1 l0_2 a0_3 a0_4 bt243.1 bt243.2.1 bt243.2.2.1 bt243.2.2.2.1 bt243.2.2.2.2 bt255.1 bt255.2.1 bt255.2.2.1 bt255.2.2.2.1 bt255.2.2.2.2 bt267.1 bt267.2.1 bt267.2.2.1 bt267.2.2.2.1 bt267.2.2.2.2) else (some false)))))) = some r := H
   have A9 := Aside0.mk A90
   clear A90
   replace H := Option.bind_eq_some_iff.mp H
   obtain ⟨⟨t243, t246, t249, t252, t253⟩, A100, H⟩ := H
   replace H : ((laws_toMemory.f kj3 l0_0 l0_1 l0_2 a0_3 a0_4).bind fun bt255 => ((impl_Told.f bt255.1 bt255.2.1 bt255.2.2.1 bt255.2.2.2.1 bt255.2.2.2.2 a1).bind fun bt267 => ((laws_eqMemory.f kj3 bt267.1 bt267.2.1 bt267.2.2.1 bt267.2.2.2.1 bt267.2.2.2.2 t243 t246 t249 t252 t253).bind fun t279 => (if t279 = true then (laws_FnExactTold.j1 kj3 a1 l0_0 l0_1 l0_2 a0_3 a0_4 t243 t246 t249 t252 t253 bt255.1 bt255.2.1 bt255.2.2.1 bt255.2.2.2.1 bt255.2.2.2.2 bt267.1 bt267.2.1 bt267.2.2.1 bt267.2.2.2.1 bt267.2.2.2.2) else (some false))))) = some r := H
   have A10 := Aside0.mk A100
   clear A100
   replace H := Option.bind_eq_some_iff.mp H
   obtain ⟨⟨t255, t258, t261, t264, t265⟩, A110, H⟩ := H
   replace H : ((impl_Told.f t255 t258 t261 t264 t265 a1).bind fun bt267 => ((laws_eqMemory.f kj3 bt267.1 bt267.2.1 bt267.2.2.1 bt267.2.2.2.1 bt267.2.2.2.2 t243 t246 t249 t252 t253).bind fun t279 => (if t279 = true then (laws_FnExactTold.j1 kj3 a1 l0_0 l0_1 l0_2 a0_3 a0_4 t243 t246 t249 t252 t253 t255 t258 t261 t264 t265 bt267.1 bt267.2.1 bt267.2.2.1 bt267.2.2.2.1 bt267.2.2.2.2) else (some false)))) = some r := H
   have A11 := Aside0.mk A110
   clear A110
   replace H := Option.bind_eq_some_iff.mp H
   obtain ⟨⟨t267, t270, t273, t276, t277⟩, A120, H⟩ := H
   replace H : ((laws_eqMemory.f kj3 t267 t270 t273 t276 t277 t243 t246 t249 t252 t253).bind fun t279 => (if t279 = true then (laws_FnExactTold.j1 kj3 a1 l0_0 l0_1 l0_2 a0_3 a0_4 t243 t246 t249 t252 t253 t255 t258 t261 t264 t265 t267 t270 t273 t276 t277) else (some false))) = some r := H
   have A12 := Aside0.mk A120
   clear A120
   replace H := Option.bind_eq_some_iff.mp H
   obtain ⟨t279, A130, H⟩ := H
   replace H : (if t279 = true then (laws_FnExactTold.j1 kj3 a1 l0_0 l0_1 l0_2 a0_3 a0_4 t243 t246 t249 t252 t253 t255 t258 t261 t264 t265 t267 t270 t273 t276 t277) else (some false)) = some r := H
   have A13 := Aside0.mk A130
   clear A130
   have HC14 := Aside0.mk H
   clear H
   have hcz15_0 : wc.cell? ⟨gb230, 0, none⟩ = some (.slice A0_0 l0_0.length c0_0) := (blk_cell BK230.out 0).trans rfl
   have hcz15_1 : wc.cell? ⟨gb230, 1, none⟩ = some (.slice A0_1 l0_1.length c0_1) := (blk_cell BK230.out 1).trans rfl
   have hcz15_2 : wc.cell? ⟨gb230, 2, none⟩ = some (.slice A0_2 l0_2.length c0_2) := (blk_cell BK230.out 2).trans rfl
   have hcz15_3 : wc.cell? ⟨gb230, 3, none⟩ = some (.int .i64 a0_3) := (blk_cell BK230.out 3).trans rfl
   have hcz15_4 : wc.cell? ⟨gb230, 4, none⟩ = some (.int .i64 a0_4) := (blk_cell BK230.out 4).trans rfl
   have hfz15_0 := blk_frozen BK230.out 0
   have hfz15_1 := blk_frozen BK230.out 1
   have hfz15_2 := blk_frozen BK230.out 2
   have hfz15_3 := blk_frozen BK230.out 3
   have hfz15_4 := blk_frozen BK230.out 4
   go_upto_if 30 with (first | ((with_reducible refine gate_callee (f := 53) rfl ?_); refine goesL_ (some 19) rfl rfl Try.func53 (by kernel_rfl) rfl #[.agg #[.slice A0_0 l0_0.length c0_0, .slice A0_1 l0_1.length c0_1, .slice A0_2 l0_2.length c0_2, .int .i64 a0_3, .int .i64 a0_4]] rfl (by (try simp only [List.map_toArray, List.map_cons, List.map_nil]); first | done | rfl | (simp only [List.length_drop, List.length_take]; rfl)) ?_; (with_reducible refine (laws_toMemory.calls kj3 _ _ l0_0 _ _ l0_1 _ _ l0_2 a0_3 a0_4 t232 t235 t238 t241 t242 _ ?side1 ?side2 ?side3 ?side4 ?side5 ?side6 A9.out).mono ?_); (case side1 => repeat (first | exact (Kd.C_below HR0_0.out HB.out) | (with_reducible refine Kd.C_alloc ?_ _) | (with_reducible refine Kd.C_drewN ?_ _) | (with_reducible refine Kd.C_drew ?_))); (case side2 => exact HC0_0.out); (case side3 => repeat (first | exact (Kd.C_below HR0_1.out HB.out) | (with_reducible refine Kd.C_alloc ?_ _) | (with_reducible refine Kd.C_drewN ?_ _) | (with_reducible refine Kd.C_drew ?_))); (case side4 => exact HC0_1.out); (case side5 => repeat (first | exact (Kd.C_below HR0_2.out HB.out) | (with_reducible refine Kd.C_alloc ?_ _) | (with_reducible refine Kd.C_drewN ?_ _) | (with_reducible refine Kd.C_drew ?_))); (case side6 => exact HC0_2.out); rintro e w16 ⟨v233, v236, v239, rfl, ho0, ho1, ho2, hb⟩; refine ⟨_, rfl, ?_⟩; have n0_ := Aside0.mk (Kd.R_lower ho0 (below_size (by repeat (first | (with_reducible first | exact HB.out | apply below_alloc | apply pw_below_drewN | apply below_drew1 | refine below_set ?_ GE230.out) | exact HB.out)))); have n1_ := Aside0.mk (Kd.R_lower ho1 (below_size (by repeat (first | (with_reducible first | exact HB.out | apply below_alloc | apply pw_below_drewN | apply below_drew1 | refine below_set ?_ GE230.out) | exact HB.out)))); have n2_ := Aside0.mk (Kd.R_lower ho2 (below_size (by repeat (first | (with_reducible first | exact HB.out | apply below_alloc | apply pw_below_drewN | apply below_drew1 | refine below_set ?_ GE230.out) | exact HB.out)))); have n3_ := Aside0.mk (blk_below (g := gb230) (o := .cells #[.slice A0_0 l0_0.length c0_0, .slice A0_1 l0_1.length c0_1, .slice A0_2 l0_2.length c0_2, .int .i64 a0_3, .int .i64 a0_4] 77 (0, 0)) (by (with_reducible repeat (first | refine blk_drewN ?_ _ | refine blk_drew ?_ | refine blk_alloc ?_ _)); exact BK230.out) hb); have n4_ := Aside0.mk (below_step (by repeat (first | (with_reducible first | exact HB.out | apply below_alloc | apply pw_below_drewN | apply below_drew1 | refine below_set ?_ GE230.out) | exact HB.out)) hb); clear BK230; clear HB; have HO234 := n0_; have HO237 := n1_; have HO240 := n2_; have BK230 := n3_; have HB := n4_; clear n0_ n1_ n2_ n3_ n4_; (try clear hb); (try clear hb2); (try clear hk); (try clear hi); (try clear ho0); (try clear ho1); (try clear ho2); obtain ⟨Ao17, co17, eo17⟩ := Kd.R_slice HO234.out; subst eo17; obtain ⟨Ao18, co18, eo18⟩ := Kd.R_slice HO237.out; subst eo18; obtain ⟨Ao19, co19, eo19⟩ := Kd.R_slice HO240.out; subst eo19) | ((with_reducible refine gate_callee (f := 52) rfl ?_); refine goesL_ (some 21) rfl rfl Try.func52 (by kernel_rfl) rfl #[.agg #[.slice Ao17 t232.length co17, .slice Ao18 t235.length co18, .slice Ao19 t238.length co19, .int .i64 t241, .int .i64 t242], .int .i64 a1] rfl (by (try simp only [List.map_toArray, List.map_cons, List.map_nil]); first | done | rfl | (simp only [List.length_drop, List.length_take]; rfl)) ?_; (with_reducible refine (spec_Told.calls _ _ t232 _ _ t235 _ _ t238 t241 t242 a1 t243 t246 t249 t252 t253 _ ?side1 ?side2 ?side3 ?side4 ?side5 ?side6 A10.out).mono ?_); (case side1 => repeat (first | exact (Kd.R_reads' HO234.out).2.2 | (with_reducible refine Kd.C_alloc ?_ _) | (with_reducible refine Kd.C_drewN ?_ _) | (with_reducible refine Kd.C_drew ?_))); (case side2 => exact (Kd.R_reads' HO234.out).2.1); (case side3 => repeat (first | exact (Kd.R_reads' HO237.out).2.2 | (with_reducible refine Kd.C_alloc ?_ _) | (with_reducible refine Kd.C_drewN ?_ _) | (with_reducible refine Kd.C_drew ?_))); (case side4 => exact (Kd.R_reads' HO237.out).2.1); (case side5 => repeat (first | exact (Kd.R_reads' HO240.out).2.2 | (with_reducible refine Kd.C_alloc ?_ _) | (with_reducible refine Kd.C_drewN ?_ _) | (with_reducible refine Kd.C_drew ?_))); (case side6 => exact (Kd.R_reads' HO240.out).2.1); rintro e w20 ⟨v244, v247, v250, rfl, ho0, ho1, ho2, hb⟩; refine ⟨_, rfl, ?_⟩; have n0_ := Aside0.mk (Kd.R_elder' (by (with_reducible repeat (first | apply Kd.R_alloc | apply Kd.R_drewN | apply Kd.R_drew)); exact HO234.out) (Kd.R_base ho0) hb); have n1_ := Aside0.mk (Kd.R_mono (Kd.R_told (Kd.R_told (Kd.R_old (by (with_reducible repeat (first | apply Kd.R_alloc | apply Kd.R_drewN | apply Kd.R_drew)); exact HO237.out) hb) (Kd.R_base ho1)) (Kd.R_base ho2)) (fun _ h_ => h_.1)); have n2_ := Aside0.mk (Kd.R_mono (Kd.R_told (Kd.R_told (Kd.R_old (by (with_reducible repeat (first | apply Kd.R_alloc | apply Kd.R_drewN | apply Kd.R_drew)); exact HO240.out) hb) (Kd.R_base ho1)) (Kd.R_base ho2)) (fun _ h_ => h_.1)); have n3_ := Aside0.mk (Kd.R_lower (Kd.R_new' ho0 (Kd.R_lt (by (with_reducible repeat (first | apply Kd.R_alloc | apply Kd.R_drewN | apply Kd.R_drew)); exact HO234.out))) (below_size (by repeat (first | (with_reducible first | exact HB.out | apply below_alloc | apply pw_below_drewN | apply below_drew1 | refine below_set ?_ GE230.out) | exact HB.out)))); have n4_ := Aside0.mk (Kd.R_lower (Kd.R_new' (Kd.R_new' ho1 (Kd.R_lt (by (with_reducible repeat (first | apply Kd.R_alloc | apply Kd.R_drewN | apply Kd.R_drew)); exact HO237.out))) (Kd.R_lt (by (with_reducible repeat (first | apply Kd.R_alloc | apply Kd.R_drewN | apply Kd.R_drew)); exact HO240.out))) (below_size (by repeat (first | (with_reducible first | exact HB.out | apply below_alloc | apply pw_below_drewN | apply below_drew1 | refine below_set ?_ GE230.out) | exact HB.out)))); have n5_ := Aside0.mk (Kd.R_lower (Kd.R_new' (Kd.R_new' ho2 (Kd.R_lt (by (with_reducible repeat (first | apply Kd.R_alloc | apply Kd.R_drewN | apply Kd.R_drew)); exact HO237.out))) (Kd.R_lt (by (with_reducible repeat (first | apply Kd.R_alloc | apply Kd.R_drewN | apply Kd.R_drew)); exact HO240.out))) (below_size (by repeat (first | (with_reducible first | exact HB.out | apply below_alloc | apply pw_below_drewN | apply below_drew1 | refine below_set ?_ GE230.out) | exact HB.out)))); have n6_ := Aside0.mk (blk_below (g := gb230) (o := .cells #[.slice A0_0 l0_0.length c0_0, .slice A0_1 l0_1.length c0_1, .slice A0_2 l0_2.length c0_2, .int .i64 a0_3, .int .i64 a0_4] 77 (0, 0)) (by (with_reducible repeat (first | refine blk_drewN ?_ _ | refine blk_drew ?_ | refine blk_alloc ?_ _)); exact BK230.out) hb); have n7_ := Aside0.mk (below_step (by repeat (first | (with_reducible first | exact HB.out | apply below_alloc | apply pw_below_drewN | apply below_drew1 | refine below_set ?_ GE230.out) | exact HB.out)) hb); clear HO234; clear HO237; clear HO240; clear BK230; clear HB; have HO234 := n0_; have HO237 := n1_; have HO240 := n2_; have HO245 := n3_; have HO248 := n4_; have HO251 := n5_; have BK230 := n6_; have HB := n7_; clear n0_ n1_ n2_ n3_ n4_ n5_ n6_ n7_; (try clear hb); (try clear hb2); (try clear hk); (try clear hi); (try clear ho0); (try clear ho1); (try clear ho2)) | ((with_reducible refine gate_dst (N := 6) rfl ?_); refine box_event ?hg (N := 6) ?hd (cs := #[.slice none 0 0, .slice none 0 0, .slice none 0 0, .int .i64 0, .int .i64 0]) (t := 57) ?hr ?_; (case hd => rfl); (case hg => rfl); (case hr => first | (go_simp; done) | (go_simp; rfl)); intro gb254 hg w21 hbox hb; have n0_ := Aside0.mk (Kd.R_below (by (with_reducible repeat (first | apply Kd.R_alloc | apply Kd.R_drewN | apply Kd.R_drew)); exact HO245.out) hb); have n1_ := Aside0.mk (Kd.R_below (by (with_reducible repeat (first | apply Kd.R_alloc | apply Kd.R_drewN | apply Kd.R_drew)); exact HO248.out) hb); have n2_ := Aside0.mk (Kd.R_below (by (with_reducible repeat (first | apply Kd.R_alloc | apply Kd.R_drewN | apply Kd.R_drew)); exact HO251.out) hb); have n3_ := Aside0.mk (blk_below (g := gb230) (o := .cells #[.slice A0_0 l0_0.length c0_0, .slice A0_1 l0_1.length c0_1, .slice A0_2 l0_2.length c0_2, .int .i64 a0_3, .int .i64 a0_4] 77 (0, 0)) (by (with_reducible repeat (first | refine blk_drewN ?_ _ | refine blk_drew ?_ | refine blk_alloc ?_ _)); exact BK230.out) hb); have n4_ := Aside0.mk (below_step (by repeat (first | (with_reducible first | exact HB.out | apply below_alloc | apply pw_below_drewN | apply below_drew1 | refine below_set ?_ GE230.out) | exact HB.out)) hb); have n5_ := Aside0.mk (hbox); have n6_ := Aside0.mk ((by rw [hg]; exact (below_size (by repeat (first | (with_reducible first | exact HB.out | apply below_alloc | apply pw_below_drewN | apply below_drew1 | refine below_set ?_ GE230.out) | exact HB.out))) : w.heap.size ≤ gb254)); have n7_ := Aside0.mk ((by rw [hg]; exact (below_size (by repeat (first | (with_reducible first | exact HB.out | apply below_alloc | apply pw_below_drewN | apply below_drew1 | refine below_set ?_ GE230.out) | exact HB.out))) : w.heap.size ≤ gb254)); have n8_ := Aside0.mk ((by rw [hg]; exact Nat.ne_of_lt (blk_lt (g := gb230) (o := .cells #[.slice A0_0 l0_0.length c0_0, .slice A0_1 l0_1.length c0_1, .slice A0_2 l0_2.length c0_2, .int .i64 a0_3, .int .i64 a0_4] 77 (0, 0)) (by (with_reducible repeat (first | refine blk_drewN ?_ _ | refine blk_drew ?_ | refine blk_alloc ?_ _)); exact BK230.out)) : gb230 ≠ gb254)); have n9_ := Aside0.mk ((by rw [hg]; exact Nat.ne_of_gt (blk_lt (g := gb230) (o := .cells #[.slice A0_0 l0_0.length c0_0, .slice A0_1 l0_1.length c0_1, .slice A0_2 l0_2.length c0_2, .int .i64 a0_3, .int .i64 a0_4] 77 (0, 0)) (by (with_reducible repeat (first | refine blk_drewN ?_ _ | refine blk_drew ?_ | refine blk_alloc ?_ _)); exact BK230.out)) : gb254 ≠ gb230)); clear HO245; clear HO248; clear HO251; clear BK230; clear HB; have HO245 := n0_; have HO248 := n1_; have HO251 := n2_; have BK230 := n3_; have HB := n4_; have BK254 := n5_; have GW254 := n6_; have GE254 := n7_; have NB230_254 := n8_; have NB254_230 := n9_; clear n0_ n1_ n2_ n3_ n4_ n5_ n6_ n7_ n8_ n9_; clear hb hbox hg; obtain ⟨Ao22, co22, eo22⟩ := Kd.R_slice HO245.out; subst eo22; have hnb23 := NB254_230.out; have hnc23 := NB230_254.out; have hcz24_0 : w21.cell? ⟨gb254, 0, none⟩ = some (.slice none 0 0) := (blk_cell BK254.out 0).trans rfl; have hcz24_1 : w21.cell? ⟨gb254, 1, none⟩ = some (.slice none 0 0) := (blk_cell BK254.out 1).trans rfl; have hcz24_2 : w21.cell? ⟨gb254, 2, none⟩ = some (.slice none 0 0) := (blk_cell BK254.out 2).trans rfl; have hcz24_3 : w21.cell? ⟨gb254, 3, none⟩ = some (.int .i64 0) := (blk_cell BK254.out 3).trans rfl; have hcz24_4 : w21.cell? ⟨gb254, 4, none⟩ = some (.int .i64 0) := (blk_cell BK254.out 4).trans rfl; have hfz24_0 := blk_frozen BK254.out 0; have hfz24_1 := blk_frozen BK254.out 1; have hfz24_2 := blk_frozen BK254.out 2; have hfz24_3 := blk_frozen BK254.out 3; have hfz24_4 := blk_frozen BK254.out 4; obtain ⟨Ao25, co25, eo25⟩ := Kd.R_slice HO248.out; subst eo25; obtain ⟨Ao26, co26, eo26⟩ := Kd.R_slice HO251.out; subst eo26; have hcz27_0 : w21.cell? ⟨gb230, 0, none⟩ = some (.slice A0_0 l0_0.length c0_0) := (blk_cell BK230.out 0).trans rfl; have hcz27_1 : w21.cell? ⟨gb230, 1, none⟩ = some (.slice A0_1 l0_1.length c0_1) := (blk_cell BK230.out 1).trans rfl; have hcz27_2 : w21.cell? ⟨gb230, 2, none⟩ = some (.slice A0_2 l0_2.length c0_2) := (blk_cell BK230.out 2).trans rfl; have hcz27_3 : w21.cell? ⟨gb230, 3, none⟩ = some (.int .i64 a0_3) := (blk_cell BK230.out 3).trans rfl; have hcz27_4 : w21.cell? ⟨gb230, 4, none⟩ = some (.int .i64 a0_4) := (blk_cell BK230.out 4).trans rfl; have hfz27_0 := blk_frozen BK230.out 0; have hfz27_1 := blk_frozen BK230.out 1; have hfz27_2 := blk_frozen BK230.out 2; have hfz27_3 := blk_frozen BK230.out 3; have hfz27_4 := blk_frozen BK230.out 4) | ((with_reducible refine gate_callee (f := 53) rfl ?_); refine goesL_ (some 23) rfl rfl Try.func53 (by kernel_rfl) rfl #[.agg #[.slice A0_0 l0_0.length c0_0, .slice A0_1 l0_1.length c0_1, .slice A0_2 l0_2.length c0_2, .int .i64 a0_3, .int .i64 a0_4]] rfl (by (try simp only [List.map_toArray, List.map_cons, List.map_nil]); first | done | rfl | (simp only [List.length_drop, List.length_take]; rfl)) ?_; (with_reducible refine (laws_toMemory.calls kj3 _ _ l0_0 _ _ l0_1 _ _ l0_2 a0_3 a0_4 t255 t258 t261 t264 t265 _ ?side1 ?side2 ?side3 ?side4 ?side5 ?side6 A11.out).mono ?_); (case side1 => exact Kd.C_below HR0_0.out (by repeat (first | (with_reducible first | exact HB.out | apply below_alloc | apply pw_below_drewN | apply below_drew1 | refine below_set ?_ GE230.out | refine below_set ?_ GE254.out) | exact HB.out))); (case side2 => exact HC0_0.out); (case side3 => exact Kd.C_below HR0_1.out (by repeat (first | (with_reducible first | exact HB.out | apply below_alloc | apply pw_below_drewN | apply below_drew1 | refine below_set ?_ GE230.out | refine below_set ?_ GE254.out) | exact HB.out))); (case side4 => exact HC0_1.out); (case side5 => exact Kd.C_below HR0_2.out (by repeat (first | (with_reducible first | exact HB.out | apply below_alloc | apply pw_below_drewN | apply below_drew1 | refine below_set ?_ GE230.out | refine below_set ?_ GE254.out) | exact HB.out))); (case side6 => exact HC0_2.out); rintro e w28 ⟨v256, v259, v262, rfl, ho0, ho1, ho2, hb⟩; refine ⟨_, rfl, ?_⟩; have n0_ := Aside0.mk (Kd.R_elder' (by (with_reducible repeat (first | apply Kd.R_alloc | apply Kd.R_drewN | apply Kd.R_drew)); exact (Kd.R_mono (Kd.R_far (p := ⟨gb254, 4, none⟩) (Kd.R_far (p := ⟨gb254, 3, none⟩) (Kd.R_far (p := ⟨gb254, 2, none⟩) (Kd.R_far (p := ⟨gb254, 1, none⟩) (Kd.R_far (p := ⟨gb254, 0, none⟩) (Kd.R_types HO245.out BK254.out (by decide)) (fun _ hk => hk.2) (.slice Ao22 t243.length co22)) (fun _ hk => hk.2) (.slice Ao25 t246.length co25)) (fun _ hk => hk.2) (.slice Ao26 t249.length co26)) (fun _ hk => hk.2) (.int .i64 t252)) (fun _ hk => hk.2) (.int .i64 t253)) (fun _ h_ => h_.1))) (Kd.R_base ho0) hb); have n1_ := Aside0.mk (Kd.R_mono (Kd.R_told (Kd.R_told (Kd.R_old (by (with_reducible repeat (first | apply Kd.R_alloc | apply Kd.R_drewN | apply Kd.R_drew)); exact (Kd.R_mono (Kd.R_far (p := ⟨gb254, 4, none⟩) (Kd.R_far (p := ⟨gb254, 3, none⟩) (Kd.R_far (p := ⟨gb254, 2, none⟩) (Kd.R_far (p := ⟨gb254, 1, none⟩) (Kd.R_far (p := ⟨gb254, 0, none⟩) (Kd.R_types HO248.out BK254.out (by decide)) (fun _ hk => hk.2) (.slice Ao22 t243.length co22)) (fun _ hk => hk.2) (.slice Ao25 t246.length co25)) (fun _ hk => hk.2) (.slice Ao26 t249.length co26)) (fun _ hk => hk.2) (.int .i64 t252)) (fun _ hk => hk.2) (.int .i64 t253)) (fun _ h_ => h_.1))) hb) (Kd.R_base ho1)) (Kd.R_base ho2)) (fun _ h_ => h_.1)); have n2_ := Aside0.mk (Kd.R_mono (Kd.R_told (Kd.R_told (Kd.R_old (by (with_reducible repeat (first | apply Kd.R_alloc | apply Kd.R_drewN | apply Kd.R_drew)); exact (Kd.R_mono (Kd.R_far (p := ⟨gb254, 4, none⟩) (Kd.R_far (p := ⟨gb254, 3, none⟩) (Kd.R_far (p := ⟨gb254, 2, none⟩) (Kd.R_far (p := ⟨gb254, 1, none⟩) (Kd.R_far (p := ⟨gb254, 0, none⟩) (Kd.R_types HO251.out BK254.out (by decide)) (fun _ hk => hk.2) (.slice Ao22 t243.length co22)) (fun _ hk => hk.2) (.slice Ao25 t246.length co25)) (fun _ hk => hk.2) (.slice Ao26 t249.length co26)) (fun _ hk => hk.2) (.int .i64 t252)) (fun _ hk => hk.2) (.int .i64 t253)) (fun _ h_ => h_.1))) hb) (Kd.R_base ho1)) (Kd.R_base ho2)) (fun _ h_ => h_.1)); have n3_ := Aside0.mk (Kd.R_lower (Kd.R_new' ho0 (Kd.R_lt (by (with_reducible repeat (first | apply Kd.R_alloc | apply Kd.R_drewN | apply Kd.R_drew)); exact (Kd.R_mono (Kd.R_far (p := ⟨gb254, 4, none⟩) (Kd.R_far (p := ⟨gb254, 3, none⟩) (Kd.R_far (p := ⟨gb254, 2, none⟩) (Kd.R_far (p := ⟨gb254, 1, none⟩) (Kd.R_far (p := ⟨gb254, 0, none⟩) (Kd.R_types HO245.out BK254.out (by decide)) (fun _ hk => hk.2) (.slice Ao22 t243.length co22)) (fun _ hk => hk.2) (.slice Ao25 t246.length co25)) (fun _ hk => hk.2) (.slice Ao26 t249.length co26)) (fun _ hk => hk.2) (.int .i64 t252)) (fun _ hk => hk.2) (.int .i64 t253)) (fun _ h_ => h_.1))))) (below_size (by repeat (first | (with_reducible first | exact HB.out | apply below_alloc | apply pw_below_drewN | apply below_drew1 | refine below_set ?_ GE230.out | refine below_set ?_ GE254.out) | exact HB.out)))); have n4_ := Aside0.mk (Kd.R_lower (Kd.R_new' (Kd.R_new' ho1 (Kd.R_lt (by (with_reducible repeat (first | apply Kd.R_alloc | apply Kd.R_drewN | apply Kd.R_drew)); exact (Kd.R_mono (Kd.R_far (p := ⟨gb254, 4, none⟩) (Kd.R_far (p := ⟨gb254, 3, none⟩) (Kd.R_far (p := ⟨gb254, 2, none⟩) (Kd.R_far (p := ⟨gb254, 1, none⟩) (Kd.R_far (p := ⟨gb254, 0, none⟩) (Kd.R_types HO248.out BK254.out (by decide)) (fun _ hk => hk.2) (.slice Ao22 t243.length co22)) (fun _ hk => hk.2) (.slice Ao25 t246.length co25)) (fun _ hk => hk.2) (.slice Ao26 t249.length co26)) (fun _ hk => hk.2) (.int .i64 t252)) (fun _ hk => hk.2) (.int .i64 t253)) (fun _ h_ => h_.1))))) (Kd.R_lt (by (with_reducible repeat (first | apply Kd.R_alloc | apply Kd.R_drewN | apply Kd.R_drew)); exact (Kd.R_mono (Kd.R_far (p := ⟨gb254, 4, none⟩) (Kd.R_far (p := ⟨gb254, 3, none⟩) (Kd.R_far (p := ⟨gb254, 2, none⟩) (Kd.R_far (p := ⟨gb254, 1, none⟩) (Kd.R_far (p := ⟨gb254, 0, none⟩) (Kd.R_types HO251.out BK254.out (by decide)) (fun _ hk => hk.2) (.slice Ao22 t243.length co22)) (fun _ hk => hk.2) (.slice Ao25 t246.length co25)) (fun _ hk => hk.2) (.slice Ao26 t249.length co26)) (fun _ hk => hk.2) (.int .i64 t252)) (fun _ hk => hk.2) (.int .i64 t253)) (fun _ h_ => h_.1))))) (below_size (by repeat (first | (with_reducible first | exact HB.out | apply below_alloc | apply pw_below_drewN | apply below_drew1 | refine below_set ?_ GE230.out | refine below_set ?_ GE254.out) | exact HB.out)))); have n5_ := Aside0.mk (Kd.R_lower (Kd.R_new' (Kd.R_new' ho2 (Kd.R_lt (by (with_reducible repeat (first | apply Kd.R_alloc | apply Kd.R_drewN | apply Kd.R_drew)); exact (Kd.R_mono (Kd.R_far (p := ⟨gb254, 4, none⟩) (Kd.R_far (p := ⟨gb254, 3, none⟩) (Kd.R_far (p := ⟨gb254, 2, none⟩) (Kd.R_far (p := ⟨gb254, 1, none⟩) (Kd.R_far (p := ⟨gb254, 0, none⟩) (Kd.R_types HO248.out BK254.out (by decide)) (fun _ hk => hk.2) (.slice Ao22 t243.length co22)) (fun _ hk => hk.2) (.slice Ao25 t246.length co25)) (fun _ hk => hk.2) (.slice Ao26 t249.length co26)) (fun _ hk => hk.2) (.int .i64 t252)) (fun _ hk => hk.2) (.int .i64 t253)) (fun _ h_ => h_.1))))) (Kd.R_lt (by (with_reducible repeat (first | apply Kd.R_alloc | apply Kd.R_drewN | apply Kd.R_drew)); exact (Kd.R_mono (Kd.R_far (p := ⟨gb254, 4, none⟩) (Kd.R_far (p := ⟨gb254, 3, none⟩) (Kd.R_far (p := ⟨gb254, 2, none⟩) (Kd.R_far (p := ⟨gb254, 1, none⟩) (Kd.R_far (p := ⟨gb254, 0, none⟩) (Kd.R_types HO251.out BK254.out (by decide)) (fun _ hk => hk.2) (.slice Ao22 t243.length co22)) (fun _ hk => hk.2) (.slice Ao25 t246.length co25)) (fun _ hk => hk.2) (.slice Ao26 t249.length co26)) (fun _ hk => hk.2) (.int .i64 t252)) (fun _ hk => hk.2) (.int .i64 t253)) (fun _ h_ => h_.1))))) (below_size (by repeat (first | (with_reducible first | exact HB.out | apply below_alloc | apply pw_below_drewN | apply below_drew1 | refine below_set ?_ GE230.out | refine below_set ?_ GE254.out) | exact HB.out)))); have n6_ := Aside0.mk (blk_below (g := gb230) (o := .cells #[.slice A0_0 l0_0.length c0_0, .slice A0_1 l0_1.length c0_1, .slice A0_2 l0_2.length c0_2, .int .i64 a0_3, .int .i64 a0_4] 77 (0, 0)) (by (with_reducible repeat (first | refine blk_drewN ?_ _ | refine blk_drew ?_ | refine blk_alloc ?_ _)); refine blk_far ?_ NB230_254.out _; (with_reducible repeat (first | refine blk_drewN ?_ _ | refine blk_drew ?_ | refine blk_alloc ?_ _)); refine blk_far ?_ NB230_254.out _; (with_reducible repeat (first | refine blk_drewN ?_ _ | refine blk_drew ?_ | refine blk_alloc ?_ _)); refine blk_far ?_ NB230_254.out _; (with_reducible repeat (first | refine blk_drewN ?_ _ | refine blk_drew ?_ | refine blk_alloc ?_ _)); refine blk_far ?_ NB230_254.out _; (with_reducible repeat (first | refine blk_drewN ?_ _ | refine blk_drew ?_ | refine blk_alloc ?_ _)); refine blk_far ?_ NB230_254.out _; (with_reducible repeat (first | refine blk_drewN ?_ _ | refine blk_drew ?_ | refine blk_alloc ?_ _)); exact BK230.out) hb); have n7_ := Aside0.mk (blk_below (g := gb254) (o := .cells #[.slice Ao22 t243.length co22, .slice Ao25 t246.length co25, .slice Ao26 t249.length co26, .int .i64 t252, .int .i64 t253] 57 (0, 0)) (by (with_reducible repeat (first | refine blk_drewN ?_ _ | refine blk_drew ?_ | refine blk_alloc ?_ _)); refine blk_put (cs := #[.slice Ao22 t243.length co22, .slice Ao25 t246.length co25, .slice Ao26 t249.length co26, .int .i64 t252, .int .i64 0]) ?_ 4 _ rfl; (with_reducible repeat (first | refine blk_drewN ?_ _ | refine blk_drew ?_ | refine blk_alloc ?_ _)); refine blk_put (cs := #[.slice Ao22 t243.length co22, .slice Ao25 t246.length co25, .slice Ao26 t249.length co26, .int .i64 0, .int .i64 0]) ?_ 3 _ rfl; (with_reducible repeat (first | refine blk_drewN ?_ _ | refine blk_drew ?_ | refine blk_alloc ?_ _)); refine blk_put (cs := #[.slice Ao22 t243.length co22, .slice Ao25 t246.length co25, .slice none 0 0, .int .i64 0, .int .i64 0]) ?_ 2 _ rfl; (with_reducible repeat (first | refine blk_drewN ?_ _ | refine blk_drew ?_ | refine blk_alloc ?_ _)); refine blk_put (cs := #[.slice Ao22 t243.length co22, .slice none 0 0, .slice none 0 0, .int .i64 0, .int .i64 0]) ?_ 1 _ rfl; (with_reducible repeat (first | refine blk_drewN ?_ _ | refine blk_drew ?_ | refine blk_alloc ?_ _)); refine blk_put (cs := #[.slice none 0 0, .slice none 0 0, .slice none 0 0, .int .i64 0, .int .i64 0]) ?_ 0 _ rfl; (with_reducible repeat (first | refine blk_drewN ?_ _ | refine blk_drew ?_ | refine blk_alloc ?_ _)); exact BK254.out) hb); have n8_ := Aside0.mk (below_step (by repeat (first | (with_reducible first | exact HB.out | apply below_alloc | apply pw_below_drewN | apply below_drew1 | refine below_set ?_ GE230.out | refine below_set ?_ GE254.out) | exact HB.out)) hb); clear HO245; clear HO248; clear HO251; clear BK230; clear BK254; clear HB; have HO245 := n0_; have HO248 := n1_; have HO251 := n2_; have HO257 := n3_; have HO260 := n4_; have HO263 := n5_; have BK230 := n6_; have BK254 := n7_; have HB := n8_; clear n0_ n1_ n2_ n3_ n4_ n5_ n6_ n7_ n8_; (try clear hb); (try clear hb2); (try clear hk); (try clear hi); (try clear ho0); (try clear ho1); (try clear ho2)) | ((with_reducible refine gate_dst (N := 7) rfl ?_); refine box_event ?hg (N := 7) ?hd (cs := #[.slice none 0 0, .slice none 0 0, .slice none 0 0, .int .i64 0, .int .i64 0]) (t := 57) ?hr ?_; (case hd => rfl); (case hg => rfl); (case hr => first | (go_simp; done) | (go_simp; rfl)); intro gb266 hg w29 hbox hb; have n0_ := Aside0.mk (Kd.R_below (by (with_reducible repeat (first | apply Kd.R_alloc | apply Kd.R_drewN | apply Kd.R_drew)); exact HO245.out) hb); have n1_ := Aside0.mk (Kd.R_below (by (with_reducible repeat (first | apply Kd.R_alloc | apply Kd.R_drewN | apply Kd.R_drew)); exact HO248.out) hb); have n2_ := Aside0.mk (Kd.R_below (by (with_reducible repeat (first | apply Kd.R_alloc | apply Kd.R_drewN | apply Kd.R_drew)); exact HO251.out) hb); have n3_ := Aside0.mk (Kd.R_below (by (with_reducible repeat (first | apply Kd.R_alloc | apply Kd.R_drewN | apply Kd.R_drew)); exact HO257.out) hb); have n4_ := Aside0.mk (Kd.R_below (by (with_reducible repeat (first | apply Kd.R_alloc | apply Kd.R_drewN | apply Kd.R_drew)); exact HO260.out) hb); have n5_ := Aside0.mk (Kd.R_below (by (with_reducible repeat (first | apply Kd.R_alloc | apply Kd.R_drewN | apply Kd.R_drew)); exact HO263.out) hb); have n6_ := Aside0.mk (blk_below (g := gb230) (o := .cells #[.slice A0_0 l0_0.length c0_0, .slice A0_1 l0_1.length c0_1, .slice A0_2 l0_2.length c0_2, .int .i64 a0_3, .int .i64 a0_4] 77 (0, 0)) (by (with_reducible repeat (first | refine blk_drewN ?_ _ | refine blk_drew ?_ | refine blk_alloc ?_ _)); exact BK230.out) hb); have n7_ := Aside0.mk (blk_below (g := gb254) (o := .cells #[.slice Ao22 t243.length co22, .slice Ao25 t246.length co25, .slice Ao26 t249.length co26, .int .i64 t252, .int .i64 t253] 57 (0, 0)) (by (with_reducible repeat (first | refine blk_drewN ?_ _ | refine blk_drew ?_ | refine blk_alloc ?_ _)); exact BK254.out) hb); have n8_ := Aside0.mk (below_step (by repeat (first | (with_reducible first | exact HB.out | apply below_alloc | apply pw_below_drewN | apply below_drew1 | refine below_set ?_ GE230.out | refine below_set ?_ GE254.out) | exact HB.out)) hb); have n9_ := Aside0.mk (hbox); have n10_ := Aside0.mk ((by rw [hg]; exact (below_size (by repeat (first | (with_reducible first | exact HB.out | apply below_alloc | apply pw_below_drewN | apply below_drew1 | refine below_set ?_ GE230.out | refine below_set ?_ GE254.out) | exact HB.out))) : w.heap.size ≤ gb266)); have n11_ := Aside0.mk ((by rw [hg]; exact (below_size (by repeat (first | (with_reducible first | exact HB.out | apply below_alloc | apply pw_below_drewN | apply below_drew1 | refine below_set ?_ GE230.out | refine below_set ?_ GE254.out) | exact HB.out))) : w.heap.size ≤ gb266)); have n12_ := Aside0.mk ((by rw [hg]; exact Nat.ne_of_lt (blk_lt (g := gb230) (o := .cells #[.slice A0_0 l0_0.length c0_0, .slice A0_1 l0_1.length c0_1, .slice A0_2 l0_2.length c0_2, .int .i64 a0_3, .int .i64 a0_4] 77 (0, 0)) (by (with_reducible repeat (first | refine blk_drewN ?_ _ | refine blk_drew ?_ | refine blk_alloc ?_ _)); exact BK230.out)) : gb230 ≠ gb266)); have n13_ := Aside0.mk ((by rw [hg]; exact Nat.ne_of_gt (blk_lt (g := gb230) (o := .cells #[.slice A0_0 l0_0.length c0_0, .slice A0_1 l0_1.length c0_1, .slice A0_2 l0_2.length c0_2, .int .i64 a0_3, .int .i64 a0_4] 77 (0, 0)) (by (with_reducible repeat (first | refine blk_drewN ?_ _ | refine blk_drew ?_ | refine blk_alloc ?_ _)); exact BK230.out)) : gb266 ≠ gb230)); have n14_ := Aside0.mk ((by rw [hg]; exact Nat.ne_of_lt (blk_lt (g := gb254) (o := .cells #[.slice Ao22 t243.length co22, .slice Ao25 t246.length co25, .slice Ao26 t249.length co26, .int .i64 t252, .int .i64 t253] 57 (0, 0)) (by (with_reducible repeat (first | refine blk_drewN ?_ _ | refine blk_drew ?_ | refine blk_alloc ?_ _)); exact BK254.out)) : gb254 ≠ gb266)); have n15_ := Aside0.mk ((by rw [hg]; exact Nat.ne_of_gt (blk_lt (g := gb254) (o := .cells #[.slice Ao22 t243.length co22, .slice Ao25 t246.length co25, .slice Ao26 t249.length co26, .int .i64 t252, .int .i64 t253] 57 (0, 0)) (by (with_reducible repeat (first | refine blk_drewN ?_ _ | refine blk_drew ?_ | refine blk_alloc ?_ _)); exact BK254.out)) : gb266 ≠ gb254)); clear HO245; clear HO248; clear HO251; clear HO257; clear HO260; clear HO263; clear BK230; clear BK254; clear HB; have HO245 := n0_; have HO248 := n1_; have HO251 := n2_; have HO257 := n3_; have HO260 := n4_; have HO263 := n5_; have BK230 := n6_; have BK254 := n7_; have HB := n8_; have BK266 := n9_; have GW266 := n10_; have GE266 := n11_; have NB230_266 := n12_; have NB266_230 := n13_; have NB254_266 := n14_; have NB266_254 := n15_; clear n0_ n1_ n2_ n3_ n4_ n5_ n6_ n7_ n8_ n9_ n10_ n11_ n12_ n13_ n14_ n15_; clear hb hbox hg; obtain ⟨Ao30, co30, eo30⟩ := Kd.R_slice HO257.out; subst eo30; have hnb31 := NB266_230.out; have hnc31 := NB230_266.out; have hnb32 := NB266_254.out; have hnc32 := NB254_266.out; have hcz33_0 : w29.cell? ⟨gb266, 0, none⟩ = some (.slice none 0 0) := (blk_cell BK266.out 0).trans rfl; have hcz33_1 : w29.cell? ⟨gb266, 1, none⟩ = some (.slice none 0 0) := (blk_cell BK266.out 1).trans rfl; have hcz33_2 : w29.cell? ⟨gb266, 2, none⟩ = some (.slice none 0 0) := (blk_cell BK266.out 2).trans rfl; have hcz33_3 : w29.cell? ⟨gb266, 3, none⟩ = some (.int .i64 0) := (blk_cell BK266.out 3).trans rfl; have hcz33_4 : w29.cell? ⟨gb266, 4, none⟩ = some (.int .i64 0) := (blk_cell BK266.out 4).trans rfl; have hfz33_0 := blk_frozen BK266.out 0; have hfz33_1 := blk_frozen BK266.out 1; have hfz33_2 := blk_frozen BK266.out 2; have hfz33_3 := blk_frozen BK266.out 3; have hfz33_4 := blk_frozen BK266.out 4; obtain ⟨Ao34, co34, eo34⟩ := Kd.R_slice HO260.out; subst eo34; obtain ⟨Ao35, co35, eo35⟩ := Kd.R_slice HO263.out; subst eo35) | ((with_reducible refine gate_callee (f := 54) rfl ?_); refine goesL_ (some 26) rfl rfl Try.func54 (by kernel_rfl) rfl #[.agg #[.slice Ao30 t255.length co30, .slice Ao34 t258.length co34, .slice Ao35 t261.length co35, .int .i64 t264, .int .i64 t265], .int .i64 a1] rfl (by (try simp only [List.map_toArray, List.map_cons, List.map_nil]); first | done | rfl | (simp only [List.length_drop, List.length_take]; rfl)) ?_; (with_reducible refine (impl_Told.calls _ _ t255 _ _ t258 _ _ t261 t264 t265 a1 t267 t270 t273 t276 t277 _ ?side1 ?side2 ?side3 ?side4 ?side5 ?side6 A12.out).mono ?_); (case side1 => refine (Kd.R_reads' (e := 123) (base := w.heap.size) (ok := fun k_ => (True ∧ some k_ ≠ (.slice Ao22 t243.length co22 : Value).ownBlock)) (n := t255.length) (c := co30) ?_).2.2; exact (by (with_reducible repeat (first | apply Kd.R_alloc | apply Kd.R_drewN | apply Kd.R_drew)); exact (Kd.R_mono (Kd.R_far (p := ⟨gb266, 4, none⟩) (Kd.R_far (p := ⟨gb266, 3, none⟩) (Kd.R_far (p := ⟨gb266, 2, none⟩) (Kd.R_far (p := ⟨gb266, 1, none⟩) (Kd.R_far (p := ⟨gb266, 0, none⟩) (Kd.R_types HO257.out BK266.out (by decide)) (fun _ hk => hk.2) (.slice Ao30 t255.length co30)) (fun _ hk => hk.2) (.slice Ao34 t258.length co34)) (fun _ hk => hk.2) (.slice Ao35 t261.length co35)) (fun _ hk => hk.2) (.int .i64 t264)) (fun _ hk => hk.2) (.int .i64 t265)) (fun _ h_ => h_.1)))); (case side2 => exact (Kd.R_reads' HO257.out).2.1); (case side3 => refine (Kd.R_reads' (e := 3) (base := w.heap.size) (ok := fun k_ => ((some k_ ≠ (.slice Ao35 t261.length co35 : Value).ownBlock ∧ some k_ ≠ (.slice Ao25 t246.length co25 : Value).ownBlock) ∧ some k_ ≠ (.slice Ao26 t249.length co26 : Value).ownBlock)) (n := t258.length) (c := co34) ?_).2.2; exact (by (with_reducible repeat (first | apply Kd.R_alloc | apply Kd.R_drewN | apply Kd.R_drew)); exact (Kd.R_mono (Kd.R_far (p := ⟨gb266, 4, none⟩) (Kd.R_far (p := ⟨gb266, 3, none⟩) (Kd.R_far (p := ⟨gb266, 2, none⟩) (Kd.R_far (p := ⟨gb266, 1, none⟩) (Kd.R_far (p := ⟨gb266, 0, none⟩) (Kd.R_types HO260.out BK266.out (by decide)) (fun _ hk => hk.2) (.slice Ao30 t255.length co30)) (fun _ hk => hk.2) (.slice Ao34 t258.length co34)) (fun _ hk => hk.2) (.slice Ao35 t261.length co35)) (fun _ hk => hk.2) (.int .i64 t264)) (fun _ hk => hk.2) (.int .i64 t265)) (fun _ h_ => h_.1)))); (case side4 => exact (Kd.R_reads' HO260.out).2.1); (case side5 => refine (Kd.R_reads' (e := 3) (base := w.heap.size) (ok := fun k_ => ((some k_ ≠ (.slice Ao34 t258.length co34 : Value).ownBlock ∧ some k_ ≠ (.slice Ao25 t246.length co25 : Value).ownBlock) ∧ some k_ ≠ (.slice Ao26 t249.length co26 : Value).ownBlock)) (n := t261.length) (c := co35) ?_).2.2; exact (by (with_reducible repeat (first | apply Kd.R_alloc | apply Kd.R_drewN | apply Kd.R_drew)); exact (Kd.R_mono (Kd.R_far (p := ⟨gb266, 4, none⟩) (Kd.R_far (p := ⟨gb266, 3, none⟩) (Kd.R_far (p := ⟨gb266, 2, none⟩) (Kd.R_far (p := ⟨gb266, 1, none⟩) (Kd.R_far (p := ⟨gb266, 0, none⟩) (Kd.R_types HO263.out BK266.out (by decide)) (fun _ hk => hk.2) (.slice Ao30 t255.length co30)) (fun _ hk => hk.2) (.slice Ao34 t258.length co34)) (fun _ hk => hk.2) (.slice Ao35 t261.length co35)) (fun _ hk => hk.2) (.int .i64 t264)) (fun _ hk => hk.2) (.int .i64 t265)) (fun _ h_ => h_.1)))); (case side6 => exact (Kd.R_reads' HO263.out).2.1); rintro e w36 ⟨v268, v271, v274, rfl, ho0, ho1, ho2, hb⟩; refine ⟨_, rfl, ?_⟩; have n0_ := Aside0.mk (Kd.R_elder' (by (with_reducible repeat (first | apply Kd.R_alloc | apply Kd.R_drewN | apply Kd.R_drew)); exact (Kd.R_mono (Kd.R_far (p := ⟨gb266, 4, none⟩) (Kd.R_far (p := ⟨gb266, 3, none⟩) (Kd.R_far (p := ⟨gb266, 2, none⟩) (Kd.R_far (p := ⟨gb266, 1, none⟩) (Kd.R_far (p := ⟨gb266, 0, none⟩) (Kd.R_types HO245.out BK266.out (by decide)) (fun _ hk => hk.2) (.slice Ao30 t255.length co30)) (fun _ hk => hk.2) (.slice Ao34 t258.length co34)) (fun _ hk => hk.2) (.slice Ao35 t261.length co35)) (fun _ hk => hk.2) (.int .i64 t264)) (fun _ hk => hk.2) (.int .i64 t265)) (fun _ h_ => h_.1))) (Kd.R_base ho0) hb); have n1_ := Aside0.mk (Kd.R_mono (Kd.R_told (Kd.R_told (Kd.R_old (by (with_reducible repeat (first | apply Kd.R_alloc | apply Kd.R_drewN | apply Kd.R_drew)); exact (Kd.R_mono (Kd.R_far (p := ⟨gb266, 4, none⟩) (Kd.R_far (p := ⟨gb266, 3, none⟩) (Kd.R_far (p := ⟨gb266, 2, none⟩) (Kd.R_far (p := ⟨gb266, 1, none⟩) (Kd.R_far (p := ⟨gb266, 0, none⟩) (Kd.R_types HO248.out BK266.out (by decide)) (fun _ hk => hk.2) (.slice Ao30 t255.length co30)) (fun _ hk => hk.2) (.slice Ao34 t258.length co34)) (fun _ hk => hk.2) (.slice Ao35 t261.length co35)) (fun _ hk => hk.2) (.int .i64 t264)) (fun _ hk => hk.2) (.int .i64 t265)) (fun _ h_ => h_.1))) hb) (Kd.R_base ho1)) (Kd.R_base ho2)) (fun _ h_ => h_.1)); have n2_ := Aside0.mk (Kd.R_mono (Kd.R_told (Kd.R_told (Kd.R_old (by (with_reducible repeat (first | apply Kd.R_alloc | apply Kd.R_drewN | apply Kd.R_drew)); exact (Kd.R_mono (Kd.R_far (p := ⟨gb266, 4, none⟩) (Kd.R_far (p := ⟨gb266, 3, none⟩) (Kd.R_far (p := ⟨gb266, 2, none⟩) (Kd.R_far (p := ⟨gb266, 1, none⟩) (Kd.R_far (p := ⟨gb266, 0, none⟩) (Kd.R_types HO251.out BK266.out (by decide)) (fun _ hk => hk.2) (.slice Ao30 t255.length co30)) (fun _ hk => hk.2) (.slice Ao34 t258.length co34)) (fun _ hk => hk.2) (.slice Ao35 t261.length co35)) (fun _ hk => hk.2) (.int .i64 t264)) (fun _ hk => hk.2) (.int .i64 t265)) (fun _ h_ => h_.1))) hb) (Kd.R_base ho1)) (Kd.R_base ho2)) (fun _ h_ => h_.1)); have n3_ := Aside0.mk (Kd.R_elder' (by (with_reducible repeat (first | apply Kd.R_alloc | apply Kd.R_drewN | apply Kd.R_drew)); exact (Kd.R_mono (Kd.R_far (p := ⟨gb266, 4, none⟩) (Kd.R_far (p := ⟨gb266, 3, none⟩) (Kd.R_far (p := ⟨gb266, 2, none⟩) (Kd.R_far (p := ⟨gb266, 1, none⟩) (Kd.R_far (p := ⟨gb266, 0, none⟩) (Kd.R_types HO257.out BK266.out (by decide)) (fun _ hk => hk.2) (.slice Ao30 t255.length co30)) (fun _ hk => hk.2) (.slice Ao34 t258.length co34)) (fun _ hk => hk.2) (.slice Ao35 t261.length co35)) (fun _ hk => hk.2) (.int .i64 t264)) (fun _ hk => hk.2) (.int .i64 t265)) (fun _ h_ => h_.1))) (Kd.R_base ho0) hb); have n4_ := Aside0.mk (Kd.R_mono (Kd.R_told (Kd.R_told (Kd.R_old (by (with_reducible repeat (first | apply Kd.R_alloc | apply Kd.R_drewN | apply Kd.R_drew)); exact (Kd.R_mono (Kd.R_far (p := ⟨gb266, 4, none⟩) (Kd.R_far (p := ⟨gb266, 3, none⟩) (Kd.R_far (p := ⟨gb266, 2, none⟩) (Kd.R_far (p := ⟨gb266, 1, none⟩) (Kd.R_far (p := ⟨gb266, 0, none⟩) (Kd.R_types HO260.out BK266.out (by decide)) (fun _ hk => hk.2) (.slice Ao30 t255.length co30)) (fun _ hk => hk.2) (.slice Ao34 t258.length co34)) (fun _ hk => hk.2) (.slice Ao35 t261.length co35)) (fun _ hk => hk.2) (.int .i64 t264)) (fun _ hk => hk.2) (.int .i64 t265)) (fun _ h_ => h_.1))) hb) (Kd.R_base ho1)) (Kd.R_base ho2)) (fun _ h_ => h_.1)); have n5_ := Aside0.mk (Kd.R_mono (Kd.R_told (Kd.R_told (Kd.R_old (by (with_reducible repeat (first | apply Kd.R_alloc | apply Kd.R_drewN | apply Kd.R_drew)); exact (Kd.R_mono (Kd.R_far (p := ⟨gb266, 4, none⟩) (Kd.R_far (p := ⟨gb266, 3, none⟩) (Kd.R_far (p := ⟨gb266, 2, none⟩) (Kd.R_far (p := ⟨gb266, 1, none⟩) (Kd.R_far (p := ⟨gb266, 0, none⟩) (Kd.R_types HO263.out BK266.out (by decide)) (fun _ hk => hk.2) (.slice Ao30 t255.length co30)) (fun _ hk => hk.2) (.slice Ao34 t258.length co34)) (fun _ hk => hk.2) (.slice Ao35 t261.length co35)) (fun _ hk => hk.2) (.int .i64 t264)) (fun _ hk => hk.2) (.int .i64 t265)) (fun _ h_ => h_.1))) hb) (Kd.R_base ho1)) (Kd.R_base ho2)) (fun _ h_ => h_.1)); have n6_ := Aside0.mk (Kd.R_lower (Kd.R_new' (Kd.R_new' ho0 (Kd.R_lt (by (with_reducible repeat (first | apply Kd.R_alloc | apply Kd.R_drewN | apply Kd.R_drew)); exact (Kd.R_mono (Kd.R_far (p := ⟨gb266, 4, none⟩) (Kd.R_far (p := ⟨gb266, 3, none⟩) (Kd.R_far (p := ⟨gb266, 2, none⟩) (Kd.R_far (p := ⟨gb266, 1, none⟩) (Kd.R_far (p := ⟨gb266, 0, none⟩) (Kd.R_types HO245.out BK266.out (by decide)) (fun _ hk => hk.2) (.slice Ao30 t255.length co30)) (fun _ hk => hk.2) (.slice Ao34 t258.length co34)) (fun _ hk => hk.2) (.slice Ao35 t261.length co35)) (fun _ hk => hk.2) (.int .i64 t264)) (fun _ hk => hk.2) (.int .i64 t265)) (fun _ h_ => h_.1))))) (Kd.R_lt (by (with_reducible repeat (first | apply Kd.R_alloc | apply Kd.R_drewN | apply Kd.R_drew)); exact (Kd.R_mono (Kd.R_far (p := ⟨gb266, 4, none⟩) (Kd.R_far (p := ⟨gb266, 3, none⟩) (Kd.R_far (p := ⟨gb266, 2, none⟩) (Kd.R_far (p := ⟨gb266, 1, none⟩) (Kd.R_far (p := ⟨gb266, 0, none⟩) (Kd.R_types HO257.out BK266.out (by decide)) (fun _ hk => hk.2) (.slice Ao30 t255.length co30)) (fun _ hk => hk.2) (.slice Ao34 t258.length co34)) (fun _ hk => hk.2) (.slice Ao35 t261.length co35)) (fun _ hk => hk.2) (.int .i64 t264)) (fun _ hk => hk.2) (.int .i64 t265)) (fun _ h_ => h_.1))))) (below_size (by repeat (first | (with_reducible first | exact HB.out | apply below_alloc | apply pw_below_drewN | apply below_drew1 | refine below_set ?_ GE230.out | refine below_set ?_ GE254.out | refine below_set ?_ GE266.out) | exact HB.out)))); have n7_ := Aside0.mk (Kd.R_lower (Kd.R_new' (Kd.R_new' (Kd.R_new' (Kd.R_new' ho1 (Kd.R_lt (by (with_reducible repeat (first | apply Kd.R_alloc | apply Kd.R_drewN | apply Kd.R_drew)); exact (Kd.R_mono (Kd.R_far (p := ⟨gb266, 4, none⟩) (Kd.R_far (p := ⟨gb266, 3, none⟩) (Kd.R_far (p := ⟨gb266, 2, none⟩) (Kd.R_far (p := ⟨gb266, 1, none⟩) (Kd.R_far (p := ⟨gb266, 0, none⟩) (Kd.R_types HO248.out BK266.out (by decide)) (fun _ hk => hk.2) (.slice Ao30 t255.length co30)) (fun _ hk => hk.2) (.slice Ao34 t258.length co34)) (fun _ hk => hk.2) (.slice Ao35 t261.length co35)) (fun _ hk => hk.2) (.int .i64 t264)) (fun _ hk => hk.2) (.int .i64 t265)) (fun _ h_ => h_.1))))) (Kd.R_lt (by (with_reducible repeat (first | apply Kd.R_alloc | apply Kd.R_drewN | apply Kd.R_drew)); exact (Kd.R_mono (Kd.R_far (p := ⟨gb266, 4, none⟩) (Kd.R_far (p := ⟨gb266, 3, none⟩) (Kd.R_far (p := ⟨gb266, 2, none⟩) (Kd.R_far (p := ⟨gb266, 1, none⟩) (Kd.R_far (p := ⟨gb266, 0, none⟩) (Kd.R_types HO251.out BK266.out (by decide)) (fun _ hk => hk.2) (.slice Ao30 t255.length co30)) (fun _ hk => hk.2) (.slice Ao34 t258.length co34)) (fun _ hk => hk.2) (.slice Ao35 t261.length co35)) (fun _ hk => hk.2) (.int .i64 t264)) (fun _ hk => hk.2) (.int .i64 t265)) (fun _ h_ => h_.1))))) (Kd.R_lt (by (with_reducible repeat (first | apply Kd.R_alloc | apply Kd.R_drewN | apply Kd.R_drew)); exact (Kd.R_mono (Kd.R_far (p := ⟨gb266, 4, none⟩) (Kd.R_far (p := ⟨gb266, 3, none⟩) (Kd.R_far (p := ⟨gb266, 2, none⟩) (Kd.R_far (p := ⟨gb266, 1, none⟩) (Kd.R_far (p := ⟨gb266, 0, none⟩) (Kd.R_types HO260.out BK266.out (by decide)) (fun _ hk => hk.2) (.slice Ao30 t255.length co30)) (fun _ hk => hk.2) (.slice Ao34 t258.length co34)) (fun _ hk => hk.2) (.slice Ao35 t261.length co35)) (fun _ hk => hk.2) (.int .i64 t264)) (fun _ hk => hk.2) (.int .i64 t265)) (fun _ h_ => h_.1))))) (Kd.R_lt (by (with_reducible repeat (first | apply Kd.R_alloc | apply Kd.R_drewN | apply Kd.R_drew)); exact (Kd.R_mono (Kd.R_far (p := ⟨gb266, 4, none⟩) (Kd.R_far (p := ⟨gb266, 3, none⟩) (Kd.R_far (p := ⟨gb266, 2, none⟩) (Kd.R_far (p := ⟨gb266, 1, none⟩) (Kd.R_far (p := ⟨gb266, 0, none⟩) (Kd.R_types HO263.out BK266.out (by decide)) (fun _ hk => hk.2) (.slice Ao30 t255.length co30)) (fun _ hk => hk.2) (.slice Ao34 t258.length co34)) (fun _ hk => hk.2) (.slice Ao35 t261.length co35)) (fun _ hk => hk.2) (.int .i64 t264)) (fun _ hk => hk.2) (.int .i64 t265)) (fun _ h_ => h_.1))))) (below_size (by repeat (first | (with_reducible first | exact HB.out | apply below_alloc | apply pw_below_drewN | apply below_drew1 | refine below_set ?_ GE230.out | refine below_set ?_ GE254.out | refine below_set ?_ GE266.out) | exact HB.out)))); have n8_ := Aside0.mk (Kd.R_lower (Kd.R_new' (Kd.R_new' (Kd.R_new' (Kd.R_new' ho2 (Kd.R_lt (by (with_reducible repeat (first | apply Kd.R_alloc | apply Kd.R_drewN | apply Kd.R_drew)); exact (Kd.R_mono (Kd.R_far (p := ⟨gb266, 4, none⟩) (Kd.R_far (p := ⟨gb266, 3, none⟩) (Kd.R_far (p := ⟨gb266, 2, none⟩) (Kd.R_far (p := ⟨gb266, 1, none⟩) (Kd.R_far (p := ⟨gb266, 0, none⟩) (Kd.R_types HO248.out BK266.out (by decide)) (fun _ hk => hk.2) (.slice Ao30 t255.length co30)) (fun _ hk => hk.2) (.slice Ao34 t258.length co34)) (fun _ hk => hk.2) (.slice Ao35 t261.length co35)) (fun _ hk => hk.2) (.int .i64 t264)) (fun _ hk => hk.2) (.int .i64 t265)) (fun _ h_ => h_.1))))) (Kd.R_lt (by (with_reducible repeat (first | apply Kd.R_alloc | apply Kd.R_drewN | apply Kd.R_drew)); exact (Kd.R_mono (Kd.R_far (p := ⟨gb266, 4, none⟩) (Kd.R_far (p := ⟨gb266, 3, none⟩) (Kd.R_far (p := ⟨gb266, 2, none⟩) (Kd.R_far (p := ⟨gb266, 1, none⟩) (Kd.R_far (p := ⟨gb266, 0, none⟩) (Kd.R_types HO251.out BK266.out (by decide)) (fun _ hk => hk.2) (.slice Ao30 t255.length co30)) (fun _ hk => hk.2) (.slice Ao34 t258.length co34)) (fun _ hk => hk.2) (.slice Ao35 t261.length co35)) (fun _ hk => hk.2) (.int .i64 t264)) (fun _ hk => hk.2) (.int .i64 t265)) (fun _ h_ => h_.1))))) (Kd.R_lt (by (with_reducible repeat (first | apply Kd.R_alloc | apply Kd.R_drewN | apply Kd.R_drew)); exact (Kd.R_mono (Kd.R_far (p := ⟨gb266, 4, none⟩) (Kd.R_far (p := ⟨gb266, 3, none⟩) (Kd.R_far (p := ⟨gb266, 2, none⟩) (Kd.R_far (p := ⟨gb266, 1, none⟩) (Kd.R_far (p := ⟨gb266, 0, none⟩) (Kd.R_types HO260.out BK266.out (by decide)) (fun _ hk => hk.2) (.slice Ao30 t255.length co30)) (fun _ hk => hk.2) (.slice Ao34 t258.length co34)) (fun _ hk => hk.2) (.slice Ao35 t261.length co35)) (fun _ hk => hk.2) (.int .i64 t264)) (fun _ hk => hk.2) (.int .i64 t265)) (fun _ h_ => h_.1))))) (Kd.R_lt (by (with_reducible repeat (first | apply Kd.R_alloc | apply Kd.R_drewN | apply Kd.R_drew)); exact (Kd.R_mono (Kd.R_far (p := ⟨gb266, 4, none⟩) (Kd.R_far (p := ⟨gb266, 3, none⟩) (Kd.R_far (p := ⟨gb266, 2, none⟩) (Kd.R_far (p := ⟨gb266, 1, none⟩) (Kd.R_far (p := ⟨gb266, 0, none⟩) (Kd.R_types HO263.out BK266.out (by decide)) (fun _ hk => hk.2) (.slice Ao30 t255.length co30)) (fun _ hk => hk.2) (.slice Ao34 t258.length co34)) (fun _ hk => hk.2) (.slice Ao35 t261.length co35)) (fun _ hk => hk.2) (.int .i64 t264)) (fun _ hk => hk.2) (.int .i64 t265)) (fun _ h_ => h_.1))))) (below_size (by repeat (first | (with_reducible first | exact HB.out | apply below_alloc | apply pw_below_drewN | apply below_drew1 | refine below_set ?_ GE230.out | refine below_set ?_ GE254.out | refine below_set ?_ GE266.out) | exact HB.out)))); have n9_ := Aside0.mk (blk_below (g := gb230) (o := .cells #[.slice A0_0 l0_0.length c0_0, .slice A0_1 l0_1.length c0_1, .slice A0_2 l0_2.length c0_2, .int .i64 a0_3, .int .i64 a0_4] 77 (0, 0)) (by (with_reducible repeat (first | refine blk_drewN ?_ _ | refine blk_drew ?_ | refine blk_alloc ?_ _)); refine blk_far ?_ NB230_266.out _; (with_reducible repeat (first | refine blk_drewN ?_ _ | refine blk_drew ?_ | refine blk_alloc ?_ _)); refine blk_far ?_ NB230_266.out _; (with_reducible repeat (first | refine blk_drewN ?_ _ | refine blk_drew ?_ | refine blk_alloc ?_ _)); refine blk_far ?_ NB230_266.out _; (with_reducible repeat (first | refine blk_drewN ?_ _ | refine blk_drew ?_ | refine blk_alloc ?_ _)); refine blk_far ?_ NB230_266.out _; (with_reducible repeat (first | refine blk_drewN ?_ _ | refine blk_drew ?_ | refine blk_alloc ?_ _)); refine blk_far ?_ NB230_266.out _; (with_reducible repeat (first | refine blk_drewN ?_ _ | refine blk_drew ?_ | refine blk_alloc ?_ _)); exact BK230.out) hb); have n10_ := Aside0.mk (blk_below (g := gb254) (o := .cells #[.slice Ao22 t243.length co22, .slice Ao25 t246.length co25, .slice Ao26 t249.length co26, .int .i64 t252, .int .i64 t253] 57 (0, 0)) (by (with_reducible repeat (first | refine blk_drewN ?_ _ | refine blk_drew ?_ | refine blk_alloc ?_ _)); refine blk_far ?_ NB254_266.out _; (with_reducible repeat (first | refine blk_drewN ?_ _ | refine blk_drew ?_ | refine blk_alloc ?_ _)); refine blk_far ?_ NB254_266.out _; (with_reducible repeat (first | refine blk_drewN ?_ _ | refine blk_drew ?_ | refine blk_alloc ?_ _)); refine blk_far ?_ NB254_266.out _; (with_reducible repeat (first | refine blk_drewN ?_ _ | refine blk_drew ?_ | refine blk_alloc ?_ _)); refine blk_far ?_ NB254_266.out _; (with_reducible repeat (first | refine blk_drewN ?_ _ | refine blk_drew ?_ | refine blk_alloc ?_ _)); refine blk_far ?_ NB254_266.out _; (with_reducible repeat (first | refine blk_drewN ?_ _ | refine blk_drew ?_ | refine blk_alloc ?_ _)); exact BK254.out) hb); have n11_ := Aside0.mk (blk_below (g := gb266) (o := .cells #[.slice Ao30 t255.length co30, .slice Ao34 t258.length co34, .slice Ao35 t261.length co35, .int .i64 t264, .int .i64 t265] 57 (0, 0)) (by (with_reducible repeat (first | refine blk_drewN ?_ _ | refine blk_drew ?_ | refine blk_alloc ?_ _)); refine blk_put (cs := #[.slice Ao30 t255.length co30, .slice Ao34 t258.length co34, .slice Ao35 t261.length co35, .int .i64 t264, .int .i64 0]) ?_ 4 _ rfl; (with_reducible repeat (first | refine blk_drewN ?_ _ | refine blk_drew ?_ | refine blk_alloc ?_ _)); refine blk_put (cs := #[.slice Ao30 t255.length co30, .slice Ao34 t258.length co34, .slice Ao35 t261.length co35, .int .i64 0, .int .i64 0]) ?_ 3 _ rfl; (with_reducible repeat (first | refine blk_drewN ?_ _ | refine blk_drew ?_ | refine blk_alloc ?_ _)); refine blk_put (cs := #[.slice Ao30 t255.length co30, .slice Ao34 t258.length co34, .slice none 0 0, .int .i64 0, .int .i64 0]) ?_ 2 _ rfl; (with_reducible repeat (first | refine blk_drewN ?_ _ | refine blk_drew ?_ | refine blk_alloc ?_ _)); refine blk_put (cs := #[.slice Ao30 t255.length co30, .slice none 0 0, .slice none 0 0, .int .i64 0, .int .i64 0]) ?_ 1 _ rfl; (with_reducible repeat (first | refine blk_drewN ?_ _ | refine blk_drew ?_ | refine blk_alloc ?_ _)); refine blk_put (cs := #[.slice none 0 0, .slice none 0 0, .slice none 0 0, .int .i64 0, .int .i64 0]) ?_ 0 _ rfl; (with_reducible repeat (first | refine blk_drewN ?_ _ | refine blk_drew ?_ | refine blk_alloc ?_ _)); exact BK266.out) hb); have n12_ := Aside0.mk (below_step (by repeat (first | (with_reducible first | exact HB.out | apply below_alloc | apply pw_below_drewN | apply below_drew1 | refine below_set ?_ GE230.out | refine below_set ?_ GE254.out | refine below_set ?_ GE266.out) | exact HB.out)) hb); clear HO245; clear HO248; clear HO251; clear HO257; clear HO260; clear HO263; clear BK230; clear BK254; clear BK266; clear HB; have HO245 := n0_; have HO248 := n1_; have HO251 := n2_; have HO257 := n3_; have HO260 := n4_; have HO263 := n5_; have HO269 := n6_; have HO272 := n7_; have HO275 := n8_; have BK230 := n9_; have BK254 := n10_; have BK266 := n11_; have HB := n12_; clear n0_ n1_ n2_ n3_ n4_ n5_ n6_ n7_ n8_ n9_ n10_ n11_ n12_; (try clear hb); (try clear hb2); (try clear hk); (try clear hi); (try clear ho0); (try clear ho1); (try clear ho2)) | ((with_reducible refine gate_dst (N := 8) rfl ?_); refine box_event ?hg (N := 8) ?hd (cs := #[.slice none 0 0, .slice none 0 0, .slice none 0 0, .int .i64 0, .int .i64 0]) (t := 57) ?hr ?_; (case hd => rfl); (case hg => rfl); (case hr => first | (go_simp; done) | (go_simp; rfl)); intro gb278 hg w37 hbox hb; have n0_ := Aside0.mk (Kd.R_below (by (with_reducible repeat (first | apply Kd.R_alloc | apply Kd.R_drewN | apply Kd.R_drew)); exact HO245.out) hb); have n1_ := Aside0.mk (Kd.R_below (by (with_reducible repeat (first | apply Kd.R_alloc | apply Kd.R_drewN | apply Kd.R_drew)); exact HO248.out) hb); have n2_ := Aside0.mk (Kd.R_below (by (with_reducible repeat (first | apply Kd.R_alloc | apply Kd.R_drewN | apply Kd.R_drew)); exact HO251.out) hb); have n3_ := Aside0.mk (Kd.R_below (by (with_reducible repeat (first | apply Kd.R_alloc | apply Kd.R_drewN | apply Kd.R_drew)); exact HO257.out) hb); have n4_ := Aside0.mk (Kd.R_below (by (with_reducible repeat (first | apply Kd.R_alloc | apply Kd.R_drewN | apply Kd.R_drew)); exact HO260.out) hb); have n5_ := Aside0.mk (Kd.R_below (by (with_reducible repeat (first | apply Kd.R_alloc | apply Kd.R_drewN | apply Kd.R_drew)); exact HO263.out) hb); have n6_ := Aside0.mk (Kd.R_below (by (with_reducible repeat (first | apply Kd.R_alloc | apply Kd.R_drewN | apply Kd.R_drew)); exact HO269.out) hb); have n7_ := Aside0.mk (Kd.R_below (by (with_reducible repeat (first | apply Kd.R_alloc | apply Kd.R_drewN | apply Kd.R_drew)); exact HO272.out) hb); have n8_ := Aside0.mk (Kd.R_below (by (with_reducible repeat (first | apply Kd.R_alloc | apply Kd.R_drewN | apply Kd.R_drew)); exact HO275.out) hb); have n9_ := Aside0.mk (blk_below (g := gb230) (o := .cells #[.slice A0_0 l0_0.length c0_0, .slice A0_1 l0_1.length c0_1, .slice A0_2 l0_2.length c0_2, .int .i64 a0_3, .int .i64 a0_4] 77 (0, 0)) (by (with_reducible repeat (first | refine blk_drewN ?_ _ | refine blk_drew ?_ | refine blk_alloc ?_ _)); exact BK230.out) hb); have n10_ := Aside0.mk (blk_below (g := gb254) (o := .cells #[.slice Ao22 t243.length co22, .slice Ao25 t246.length co25, .slice Ao26 t249.length co26, .int .i64 t252, .int .i64 t253] 57 (0, 0)) (by (with_reducible repeat (first | refine blk_drewN ?_ _ | refine blk_drew ?_ | refine blk_alloc ?_ _)); exact BK254.out) hb); have n11_ := Aside0.mk (blk_below (g := gb266) (o := .cells #[.slice Ao30 t255.length co30, .slice Ao34 t258.length co34, .slice Ao35 t261.length co35, .int .i64 t264, .int .i64 t265] 57 (0, 0)) (by (with_reducible repeat (first | refine blk_drewN ?_ _ | refine blk_drew ?_ | refine blk_alloc ?_ _)); exact BK266.out) hb); have n12_ := Aside0.mk (below_step (by repeat (first | (with_reducible first | exact HB.out | apply below_alloc | apply pw_below_drewN | apply below_drew1 | refine below_set ?_ GE230.out | refine below_set ?_ GE254.out | refine below_set ?_ GE266.out) | exact HB.out)) hb); have n13_ := Aside0.mk (hbox); have n14_ := Aside0.mk ((by rw [hg]; exact (below_size (by repeat (first | (with_reducible first | exact HB.out | apply below_alloc | apply pw_below_drewN | apply below_drew1 | refine below_set ?_ GE230.out | refine below_set ?_ GE254.out | refine below_set ?_ GE266.out) | exact HB.out))) : w.heap.size ≤ gb278)); have n15_ := Aside0.mk ((by rw [hg]; exact (below_size (by repeat (first | (with_reducible first | exact HB.out | apply below_alloc | apply pw_below_drewN | apply below_drew1 | refine below_set ?_ GE230.out | refine below_set ?_ GE254.out | refine below_set ?_ GE266.out) | exact HB.out))) : w.heap.size ≤ gb278)); have n16_ := Aside0.mk ((by rw [hg]; exact Nat.ne_of_lt (blk_lt (g := gb230) (o := .cells #[.slice A0_0 l0_0.length c0_0, .slice A0_1 l0_1.length c0_1, .slice A0_2 l0_2.length c0_2, .int .i64 a0_3, .int .i64 a0_4] 77 (0, 0)) (by (with_reducible repeat (first | refine blk_drewN ?_ _ | refine blk_drew ?_ | refine blk_alloc ?_ _)); exact BK230.out)) : gb230 ≠ gb278)); have n17_ := Aside0.mk ((by rw [hg]; exact Nat.ne_of_gt (blk_lt (g := gb230) (o := .cells #[.slice A0_0 l0_0.length c0_0, .slice A0_1 l0_1.length c0_1, .slice A0_2 l0_2.length c0_2, .int .i64 a0_3, .int .i64 a0_4] 77 (0, 0)) (by (with_reducible repeat (first | refine blk_drewN ?_ _ | refine blk_drew ?_ | refine blk_alloc ?_ _)); exact BK230.out)) : gb278 ≠ gb230)); have n18_ := Aside0.mk ((by rw [hg]; exact Nat.ne_of_lt (blk_lt (g := gb254) (o := .cells #[.slice Ao22 t243.length co22, .slice Ao25 t246.length co25, .slice Ao26 t249.length co26, .int .i64 t252, .int .i64 t253] 57 (0, 0)) (by (with_reducible repeat (first | refine blk_drewN ?_ _ | refine blk_drew ?_ | refine blk_alloc ?_ _)); exact BK254.out)) : gb254 ≠ gb278)); have n19_ := Aside0.mk ((by rw [hg]; exact Nat.ne_of_gt (blk_lt (g := gb254) (o := .cells #[.slice Ao22 t243.length co22, .slice Ao25 t246.length co25, .slice Ao26 t249.length co26, .int .i64 t252, .int .i64 t253] 57 (0, 0)) (by (with_reducible repeat (first | refine blk_drewN ?_ _ | refine blk_drew ?_ | refine blk_alloc ?_ _)); exact BK254.out)) : gb278 ≠ gb254)); have n20_ := Aside0.mk ((by rw [hg]; exact Nat.ne_of_lt (blk_lt (g := gb266) (o := .cells #[.slice Ao30 t255.length co30, .slice Ao34 t258.length co34, .slice Ao35 t261.length co35, .int .i64 t264, .int .i64 t265] 57 (0, 0)) (by (with_reducible repeat (first | refine blk_drewN ?_ _ | refine blk_drew ?_ | refine blk_alloc ?_ _)); exact BK266.out)) : gb266 ≠ gb278)); have n21_ := Aside0.mk ((by rw [hg]; exact Nat.ne_of_gt (blk_lt (g := gb266) (o := .cells #[.slice Ao30 t255.length co30, .slice Ao34 t258.length co34, .slice Ao35 t261.length co35, .int .i64 t264, .int .i64 t265] 57 (0, 0)) (by (with_reducible repeat (first | refine blk_drewN ?_ _ | refine blk_drew ?_ | refine blk_alloc ?_ _)); exact BK266.out)) : gb278 ≠ gb266)); clear HO245; clear HO248; clear HO251; clear HO257; clear HO260; clear HO263; clear HO269; clear HO272; clear HO275; clear BK230; clear BK254; clear BK266; clear HB; have HO245 := n0_; have HO248 := n1_; have HO251 := n2_; have HO257 := n3_; have HO260 := n4_; have HO263 := n5_; have HO269 := n6_; have HO272 := n7_; have HO275 := n8_; have BK230 := n9_; have BK254 := n10_; have BK266 := n11_; have HB := n12_; have BK278 := n13_; have GW278 := n14_; have GE278 := n15_; have NB230_278 := n16_; have NB278_230 := n17_; have NB254_278 := n18_; have NB278_254 := n19_; have NB266_278 := n20_; have NB278_266 := n21_; clear n0_ n1_ n2_ n3_ n4_ n5_ n6_ n7_ n8_ n9_ n10_ n11_ n12_ n13_ n14_ n15_ n16_ n17_ n18_ n19_ n20_ n21_; clear hb hbox hg; obtain ⟨Ao38, co38, eo38⟩ := Kd.R_slice HO269.out; subst eo38; have hnb39 := NB278_230.out; have hnc39 := NB230_278.out; have hnb40 := NB278_254.out; have hnc40 := NB254_278.out; have hnb41 := NB278_266.out; have hnc41 := NB266_278.out; have hcz42_0 : w37.cell? ⟨gb278, 0, none⟩ = some (.slice none 0 0) := (blk_cell BK278.out 0).trans rfl; have hcz42_1 : w37.cell? ⟨gb278, 1, none⟩ = some (.slice none 0 0) := (blk_cell BK278.out 1).trans rfl; have hcz42_2 : w37.cell? ⟨gb278, 2, none⟩ = some (.slice none 0 0) := (blk_cell BK278.out 2).trans rfl; have hcz42_3 : w37.cell? ⟨gb278, 3, none⟩ = some (.int .i64 0) := (blk_cell BK278.out 3).trans rfl; have hcz42_4 : w37.cell? ⟨gb278, 4, none⟩ = some (.int .i64 0) := (blk_cell BK278.out 4).trans rfl; have hfz42_0 := blk_frozen BK278.out 0; have hfz42_1 := blk_frozen BK278.out 1; have hfz42_2 := blk_frozen BK278.out 2; have hfz42_3 := blk_frozen BK278.out 3; have hfz42_4 := blk_frozen BK278.out 4; obtain ⟨Ao43, co43, eo43⟩ := Kd.R_slice HO272.out; subst eo43; obtain ⟨Ao44, co44, eo44⟩ := Kd.R_slice HO275.out; subst eo44; have hcz45_0 : w37.cell? ⟨gb254, 0, none⟩ = some (.slice Ao22 t243.length co22) := (blk_cell BK254.out 0).trans rfl; have hcz45_1 : w37.cell? ⟨gb254, 1, none⟩ = some (.slice Ao25 t246.length co25) := (blk_cell BK254.out 1).trans rfl; have hcz45_2 : w37.cell? ⟨gb254, 2, none⟩ = some (.slice Ao26 t249.length co26) := (blk_cell BK254.out 2).trans rfl; have hcz45_3 : w37.cell? ⟨gb254, 3, none⟩ = some (.int .i64 t252) := (blk_cell BK254.out 3).trans rfl; have hcz45_4 : w37.cell? ⟨gb254, 4, none⟩ = some (.int .i64 t253) := (blk_cell BK254.out 4).trans rfl; have hfz45_0 := blk_frozen BK254.out 0; have hfz45_1 := blk_frozen BK254.out 1; have hfz45_2 := blk_frozen BK254.out 2; have hfz45_3 := blk_frozen BK254.out 3; have hfz45_4 := blk_frozen BK254.out 4) | ((with_reducible refine gate_callee (f := 40) rfl ?_); refine goesL_ (some 29) rfl rfl Try.func40 (by kernel_rfl) rfl #[.agg #[.slice Ao38 t267.length co38, .slice Ao43 t270.length co43, .slice Ao44 t273.length co44, .int .i64 t276, .int .i64 t277], .agg #[.slice Ao22 t243.length co22, .slice Ao25 t246.length co25, .slice Ao26 t249.length co26, .int .i64 t252, .int .i64 t253]] rfl (by (try simp only [List.map_toArray, List.map_cons, List.map_nil]); first | done | rfl | (simp only [List.length_drop, List.length_take]; rfl)) ?_; (with_reducible refine (laws_eqMemory.calls kj3 _ _ t267 _ _ t270 _ _ t273 t276 t277 _ _ t243 _ _ t246 _ _ t249 t252 t253 t279 _ ?side1 ?side2 ?side3 ?side4 ?side5 ?side6 ?side7 ?side8 ?side9 ?side10 ?side11 ?side12 A13.out).mono ?_); (case side1 => refine (Kd.R_reads' (e := 123) (base := w.heap.size) (ok := fun k_ => ((True ∧ some k_ ≠ (.slice Ao22 t243.length co22 : Value).ownBlock) ∧ some k_ ≠ (.slice Ao30 t255.length co30 : Value).ownBlock)) (n := t267.length) (c := co38) ?_).2.2; exact (by (with_reducible repeat (first | apply Kd.R_alloc | apply Kd.R_drewN | apply Kd.R_drew)); exact (Kd.R_mono (Kd.R_far (p := ⟨gb278, 4, none⟩) (Kd.R_far (p := ⟨gb278, 3, none⟩) (Kd.R_far (p := ⟨gb278, 2, none⟩) (Kd.R_far (p := ⟨gb278, 1, none⟩) (Kd.R_far (p := ⟨gb278, 0, none⟩) (Kd.R_types HO269.out BK278.out (by decide)) (fun _ hk => hk.2) (.slice Ao38 t267.length co38)) (fun _ hk => hk.2) (.slice Ao43 t270.length co43)) (fun _ hk => hk.2) (.slice Ao44 t273.length co44)) (fun _ hk => hk.2) (.int .i64 t276)) (fun _ hk => hk.2) (.int .i64 t277)) (fun _ h_ => h_.1)))); (case side2 => exact (Kd.R_reads' HO269.out).2.1); (case side3 => refine (Kd.R_reads' (e := 3) (base := w.heap.size) (ok := fun k_ => ((((some k_ ≠ (.slice Ao44 t273.length co44 : Value).ownBlock ∧ some k_ ≠ (.slice Ao25 t246.length co25 : Value).ownBlock) ∧ some k_ ≠ (.slice Ao26 t249.length co26 : Value).ownBlock) ∧ some k_ ≠ (.slice Ao34 t258.length co34 : Value).ownBlock) ∧ some k_ ≠ (.slice Ao35 t261.length co35 : Value).ownBlock)) (n := t270.length) (c := co43) ?_).2.2; exact (by (with_reducible repeat (first | apply Kd.R_alloc | apply Kd.R_drewN | apply Kd.R_drew)); exact (Kd.R_mono (Kd.R_far (p := ⟨gb278, 4, none⟩) (Kd.R_far (p := ⟨gb278, 3, none⟩) (Kd.R_far (p := ⟨gb278, 2, none⟩) (Kd.R_far (p := ⟨gb278, 1, none⟩) (Kd.R_far (p := ⟨gb278, 0, none⟩) (Kd.R_types HO272.out BK278.out (by decide)) (fun _ hk => hk.2) (.slice Ao38 t267.length co38)) (fun _ hk => hk.2) (.slice Ao43 t270.length co43)) (fun _ hk => hk.2) (.slice Ao44 t273.length co44)) (fun _ hk => hk.2) (.int .i64 t276)) (fun _ hk => hk.2) (.int .i64 t277)) (fun _ h_ => h_.1)))); (case side4 => exact (Kd.R_reads' HO272.out).2.1); (case side5 => refine (Kd.R_reads' (e := 3) (base := w.heap.size) (ok := fun k_ => ((((some k_ ≠ (.slice Ao43 t270.length co43 : Value).ownBlock ∧ some k_ ≠ (.slice Ao25 t246.length co25 : Value).ownBlock) ∧ some k_ ≠ (.slice Ao26 t249.length co26 : Value).ownBlock) ∧ some k_ ≠ (.slice Ao34 t258.length co34 : Value).ownBlock) ∧ some k_ ≠ (.slice Ao35 t261.length co35 : Value).ownBlock)) (n := t273.length) (c := co44) ?_).2.2; exact (by (with_reducible repeat (first | apply Kd.R_alloc | apply Kd.R_drewN | apply Kd.R_drew)); exact (Kd.R_mono (Kd.R_far (p := ⟨gb278, 4, none⟩) (Kd.R_far (p := ⟨gb278, 3, none⟩) (Kd.R_far (p := ⟨gb278, 2, none⟩) (Kd.R_far (p := ⟨gb278, 1, none⟩) (Kd.R_far (p := ⟨gb278, 0, none⟩) (Kd.R_types HO275.out BK278.out (by decide)) (fun _ hk => hk.2) (.slice Ao38 t267.length co38)) (fun _ hk => hk.2) (.slice Ao43 t270.length co43)) (fun _ hk => hk.2) (.slice Ao44 t273.length co44)) (fun _ hk => hk.2) (.int .i64 t276)) (fun _ hk => hk.2) (.int .i64 t277)) (fun _ h_ => h_.1)))); (case side6 => exact (Kd.R_reads' HO275.out).2.1); (case side7 => refine (Kd.R_reads' (e := 123) (base := w.heap.size) (ok := fun k_ => (((True ∧ some k_ ≠ (.slice Ao17 t232.length co17 : Value).ownBlock) ∧ some k_ ≠ (.slice Ao30 t255.length co30 : Value).ownBlock) ∧ some k_ ≠ (.slice Ao38 t267.length co38 : Value).ownBlock)) (n := t243.length) (c := co22) ?_).2.2; exact (by (with_reducible repeat (first | apply Kd.R_alloc | apply Kd.R_drewN | apply Kd.R_drew)); exact (Kd.R_mono (Kd.R_far (p := ⟨gb278, 4, none⟩) (Kd.R_far (p := ⟨gb278, 3, none⟩) (Kd.R_far (p := ⟨gb278, 2, none⟩) (Kd.R_far (p := ⟨gb278, 1, none⟩) (Kd.R_far (p := ⟨gb278, 0, none⟩) (Kd.R_types HO245.out BK278.out (by decide)) (fun _ hk => hk.2) (.slice Ao38 t267.length co38)) (fun _ hk => hk.2) (.slice Ao43 t270.length co43)) (fun _ hk => hk.2) (.slice Ao44 t273.length co44)) (fun _ hk => hk.2) (.int .i64 t276)) (fun _ hk => hk.2) (.int .i64 t277)) (fun _ h_ => h_.1)))); (case side8 => exact (Kd.R_reads' HO245.out).2.1); (case side9 => refine (Kd.R_reads' (e := 3) (base := w.heap.size) (ok := fun k_ => ((((((some k_ ≠ (.slice Ao26 t249.length co26 : Value).ownBlock ∧ some k_ ≠ (.slice Ao18 t235.length co18 : Value).ownBlock) ∧ some k_ ≠ (.slice Ao19 t238.length co19 : Value).ownBlock) ∧ some k_ ≠ (.slice Ao34 t258.length co34 : Value).ownBlock) ∧ some k_ ≠ (.slice Ao35 t261.length co35 : Value).ownBlock) ∧ some k_ ≠ (.slice Ao43 t270.length co43 : Value).ownBlock) ∧ some k_ ≠ (.slice Ao44 t273.length co44 : Value).ownBlock)) (n := t246.length) (c := co25) ?_).2.2; exact (by (with_reducible repeat (first | apply Kd.R_alloc | apply Kd.R_drewN | apply Kd.R_drew)); exact (Kd.R_mono (Kd.R_far (p := ⟨gb278, 4, none⟩) (Kd.R_far (p := ⟨gb278, 3, none⟩) (Kd.R_far (p := ⟨gb278, 2, none⟩) (Kd.R_far (p := ⟨gb278, 1, none⟩) (Kd.R_far (p := ⟨gb278, 0, none⟩) (Kd.R_types HO248.out BK278.out (by decide)) (fun _ hk => hk.2) (.slice Ao38 t267.length co38)) (fun _ hk => hk.2) (.slice Ao43 t270.length co43)) (fun _ hk => hk.2) (.slice Ao44 t273.length co44)) (fun _ hk => hk.2) (.int .i64 t276)) (fun _ hk => hk.2) (.int .i64 t277)) (fun _ h_ => h_.1)))); (case side10 => exact (Kd.R_reads' HO248.out).2.1); (case side11 => refine (Kd.R_reads' (e := 3) (base := w.heap.size) (ok := fun k_ => ((((((some k_ ≠ (.slice Ao25 t246.length co25 : Value).ownBlock ∧ some k_ ≠ (.slice Ao18 t235.length co18 : Value).ownBlock) ∧ some k_ ≠ (.slice Ao19 t238.length co19 : Value).ownBlock) ∧ some k_ ≠ (.slice Ao34 t258.length co34 : Value).ownBlock) ∧ some k_ ≠ (.slice Ao35 t261.length co35 : Value).ownBlock) ∧ some k_ ≠ (.slice Ao43 t270.length co43 : Value).ownBlock) ∧ some k_ ≠ (.slice Ao44 t273.length co44 : Value).ownBlock)) (n := t249.length) (c := co26) ?_).2.2; exact (by (with_reducible repeat (first | apply Kd.R_alloc | apply Kd.R_drewN | apply Kd.R_drew)); exact (Kd.R_mono (Kd.R_far (p := ⟨gb278, 4, none⟩) (Kd.R_far (p := ⟨gb278, 3, none⟩) (Kd.R_far (p := ⟨gb278, 2, none⟩) (Kd.R_far (p := ⟨gb278, 1, none⟩) (Kd.R_far (p := ⟨gb278, 0, none⟩) (Kd.R_types HO251.out BK278.out (by decide)) (fun _ hk => hk.2) (.slice Ao38 t267.length co38)) (fun _ hk => hk.2) (.slice Ao43 t270.length co43)) (fun _ hk => hk.2) (.slice Ao44 t273.length co44)) (fun _ hk => hk.2) (.int .i64 t276)) (fun _ hk => hk.2) (.int .i64 t277)) (fun _ h_ => h_.1)))); (case side12 => exact (Kd.R_reads' HO251.out).2.1); rintro e w46 ⟨rfl, hb⟩; refine ⟨_, rfl, ?_⟩; have n0_ := Aside0.mk (Kd.R_below (by (with_reducible repeat (first | apply Kd.R_alloc | apply Kd.R_drewN | apply Kd.R_drew)); exact (Kd.R_mono (Kd.R_far (p := ⟨gb278, 4, none⟩) (Kd.R_far (p := ⟨gb278, 3, none⟩) (Kd.R_far (p := ⟨gb278, 2, none⟩) (Kd.R_far (p := ⟨gb278, 1, none⟩) (Kd.R_far (p := ⟨gb278, 0, none⟩) (Kd.R_types HO245.out BK278.out (by decide)) (fun _ hk => hk.2) (.slice Ao38 t267.length co38)) (fun _ hk => hk.2) (.slice Ao43 t270.length co43)) (fun _ hk => hk.2) (.slice Ao44 t273.length co44)) (fun _ hk => hk.2) (.int .i64 t276)) (fun _ hk => hk.2) (.int .i64 t277)) (fun _ h_ => h_.1))) hb); have n1_ := Aside0.mk (Kd.R_below (by (with_reducible repeat (first | apply Kd.R_alloc | apply Kd.R_drewN | apply Kd.R_drew)); exact (Kd.R_mono (Kd.R_far (p := ⟨gb278, 4, none⟩) (Kd.R_far (p := ⟨gb278, 3, none⟩) (Kd.R_far (p := ⟨gb278, 2, none⟩) (Kd.R_far (p := ⟨gb278, 1, none⟩) (Kd.R_far (p := ⟨gb278, 0, none⟩) (Kd.R_types HO248.out BK278.out (by decide)) (fun _ hk => hk.2) (.slice Ao38 t267.length co38)) (fun _ hk => hk.2) (.slice Ao43 t270.length co43)) (fun _ hk => hk.2) (.slice Ao44 t273.length co44)) (fun _ hk => hk.2) (.int .i64 t276)) (fun _ hk => hk.2) (.int .i64 t277)) (fun _ h_ => h_.1))) hb); have n2_ := Aside0.mk (Kd.R_below (by (with_reducible repeat (first | apply Kd.R_alloc | apply Kd.R_drewN | apply Kd.R_drew)); exact (Kd.R_mono (Kd.R_far (p := ⟨gb278, 4, none⟩) (Kd.R_far (p := ⟨gb278, 3, none⟩) (Kd.R_far (p := ⟨gb278, 2, none⟩) (Kd.R_far (p := ⟨gb278, 1, none⟩) (Kd.R_far (p := ⟨gb278, 0, none⟩) (Kd.R_types HO251.out BK278.out (by decide)) (fun _ hk => hk.2) (.slice Ao38 t267.length co38)) (fun _ hk => hk.2) (.slice Ao43 t270.length co43)) (fun _ hk => hk.2) (.slice Ao44 t273.length co44)) (fun _ hk => hk.2) (.int .i64 t276)) (fun _ hk => hk.2) (.int .i64 t277)) (fun _ h_ => h_.1))) hb); have n3_ := Aside0.mk (Kd.R_below (by (with_reducible repeat (first | apply Kd.R_alloc | apply Kd.R_drewN | apply Kd.R_drew)); exact (Kd.R_mono (Kd.R_far (p := ⟨gb278, 4, none⟩) (Kd.R_far (p := ⟨gb278, 3, none⟩) (Kd.R_far (p := ⟨gb278, 2, none⟩) (Kd.R_far (p := ⟨gb278, 1, none⟩) (Kd.R_far (p := ⟨gb278, 0, none⟩) (Kd.R_types HO257.out BK278.out (by decide)) (fun _ hk => hk.2) (.slice Ao38 t267.length co38)) (fun _ hk => hk.2) (.slice Ao43 t270.length co43)) (fun _ hk => hk.2) (.slice Ao44 t273.length co44)) (fun _ hk => hk.2) (.int .i64 t276)) (fun _ hk => hk.2) (.int .i64 t277)) (fun _ h_ => h_.1))) hb); have n4_ := Aside0.mk (Kd.R_below (by (with_reducible repeat (first | apply Kd.R_alloc | apply Kd.R_drewN | apply Kd.R_drew)); exact (Kd.R_mono (Kd.R_far (p := ⟨gb278, 4, none⟩) (Kd.R_far (p := ⟨gb278, 3, none⟩) (Kd.R_far (p := ⟨gb278, 2, none⟩) (Kd.R_far (p := ⟨gb278, 1, none⟩) (Kd.R_far (p := ⟨gb278, 0, none⟩) (Kd.R_types HO260.out BK278.out (by decide)) (fun _ hk => hk.2) (.slice Ao38 t267.length co38)) (fun _ hk => hk.2) (.slice Ao43 t270.length co43)) (fun _ hk => hk.2) (.slice Ao44 t273.length co44)) (fun _ hk => hk.2) (.int .i64 t276)) (fun _ hk => hk.2) (.int .i64 t277)) (fun _ h_ => h_.1))) hb); have n5_ := Aside0.mk (Kd.R_below (by (with_reducible repeat (first | apply Kd.R_alloc | apply Kd.R_drewN | apply Kd.R_drew)); exact (Kd.R_mono (Kd.R_far (p := ⟨gb278, 4, none⟩) (Kd.R_far (p := ⟨gb278, 3, none⟩) (Kd.R_far (p := ⟨gb278, 2, none⟩) (Kd.R_far (p := ⟨gb278, 1, none⟩) (Kd.R_far (p := ⟨gb278, 0, none⟩) (Kd.R_types HO263.out BK278.out (by decide)) (fun _ hk => hk.2) (.slice Ao38 t267.length co38)) (fun _ hk => hk.2) (.slice Ao43 t270.length co43)) (fun _ hk => hk.2) (.slice Ao44 t273.length co44)) (fun _ hk => hk.2) (.int .i64 t276)) (fun _ hk => hk.2) (.int .i64 t277)) (fun _ h_ => h_.1))) hb); have n6_ := Aside0.mk (Kd.R_below (by (with_reducible repeat (first | apply Kd.R_alloc | apply Kd.R_drewN | apply Kd.R_drew)); exact (Kd.R_mono (Kd.R_far (p := ⟨gb278, 4, none⟩) (Kd.R_far (p := ⟨gb278, 3, none⟩) (Kd.R_far (p := ⟨gb278, 2, none⟩) (Kd.R_far (p := ⟨gb278, 1, none⟩) (Kd.R_far (p := ⟨gb278, 0, none⟩) (Kd.R_types HO269.out BK278.out (by decide)) (fun _ hk => hk.2) (.slice Ao38 t267.length co38)) (fun _ hk => hk.2) (.slice Ao43 t270.length co43)) (fun _ hk => hk.2) (.slice Ao44 t273.length co44)) (fun _ hk => hk.2) (.int .i64 t276)) (fun _ hk => hk.2) (.int .i64 t277)) (fun _ h_ => h_.1))) hb); have n7_ := Aside0.mk (Kd.R_below (by (with_reducible repeat (first | apply Kd.R_alloc | apply Kd.R_drewN | apply Kd.R_drew)); exact (Kd.R_mono (Kd.R_far (p := ⟨gb278, 4, none⟩) (Kd.R_far (p := ⟨gb278, 3, none⟩) (Kd.R_far (p := ⟨gb278, 2, none⟩) (Kd.R_far (p := ⟨gb278, 1, none⟩) (Kd.R_far (p := ⟨gb278, 0, none⟩) (Kd.R_types HO272.out BK278.out (by decide)) (fun _ hk => hk.2) (.slice Ao38 t267.length co38)) (fun _ hk => hk.2) (.slice Ao43 t270.length co43)) (fun _ hk => hk.2) (.slice Ao44 t273.length co44)) (fun _ hk => hk.2) (.int .i64 t276)) (fun _ hk => hk.2) (.int .i64 t277)) (fun _ h_ => h_.1))) hb); have n8_ := Aside0.mk (Kd.R_below (by (with_reducible repeat (first | apply Kd.R_alloc | apply Kd.R_drewN | apply Kd.R_drew)); exact (Kd.R_mono (Kd.R_far (p := ⟨gb278, 4, none⟩) (Kd.R_far (p := ⟨gb278, 3, none⟩) (Kd.R_far (p := ⟨gb278, 2, none⟩) (Kd.R_far (p := ⟨gb278, 1, none⟩) (Kd.R_far (p := ⟨gb278, 0, none⟩) (Kd.R_types HO275.out BK278.out (by decide)) (fun _ hk => hk.2) (.slice Ao38 t267.length co38)) (fun _ hk => hk.2) (.slice Ao43 t270.length co43)) (fun _ hk => hk.2) (.slice Ao44 t273.length co44)) (fun _ hk => hk.2) (.int .i64 t276)) (fun _ hk => hk.2) (.int .i64 t277)) (fun _ h_ => h_.1))) hb); have n9_ := Aside0.mk (blk_below (g := gb230) (o := .cells #[.slice A0_0 l0_0.length c0_0, .slice A0_1 l0_1.length c0_1, .slice A0_2 l0_2.length c0_2, .int .i64 a0_3, .int .i64 a0_4] 77 (0, 0)) (by (with_reducible repeat (first | refine blk_drewN ?_ _ | refine blk_drew ?_ | refine blk_alloc ?_ _)); refine blk_far ?_ NB230_278.out _; (with_reducible repeat (first | refine blk_drewN ?_ _ | refine blk_drew ?_ | refine blk_alloc ?_ _)); refine blk_far ?_ NB230_278.out _; (with_reducible repeat (first | refine blk_drewN ?_ _ | refine blk_drew ?_ | refine blk_alloc ?_ _)); refine blk_far ?_ NB230_278.out _; (with_reducible repeat (first | refine blk_drewN ?_ _ | refine blk_drew ?_ | refine blk_alloc ?_ _)); refine blk_far ?_ NB230_278.out _; (with_reducible repeat (first | refine blk_drewN ?_ _ | refine blk_drew ?_ | refine blk_alloc ?_ _)); refine blk_far ?_ NB230_278.out _; (with_reducible repeat (first | refine blk_drewN ?_ _ | refine blk_drew ?_ | refine blk_alloc ?_ _)); exact BK230.out) hb); have n10_ := Aside0.mk (blk_below (g := gb254) (o := .cells #[.slice Ao22 t243.length co22, .slice Ao25 t246.length co25, .slice Ao26 t249.length co26, .int .i64 t252, .int .i64 t253] 57 (0, 0)) (by (with_reducible repeat (first | refine blk_drewN ?_ _ | refine blk_drew ?_ | refine blk_alloc ?_ _)); refine blk_far ?_ NB254_278.out _; (with_reducible repeat (first | refine blk_drewN ?_ _ | refine blk_drew ?_ | refine blk_alloc ?_ _)); refine blk_far ?_ NB254_278.out _; (with_reducible repeat (first | refine blk_drewN ?_ _ | refine blk_drew ?_ | refine blk_alloc ?_ _)); refine blk_far ?_ NB254_278.out _; (with_reducible repeat (first | refine blk_drewN ?_ _ | refine blk_drew ?_ | refine blk_alloc ?_ _)); refine blk_far ?_ NB254_278.out _; (with_reducible repeat (first | refine blk_drewN ?_ _ | refine blk_drew ?_ | refine blk_alloc ?_ _)); refine blk_far ?_ NB254_278.out _; (with_reducible repeat (first | refine blk_drewN ?_ _ | refine blk_drew ?_ | refine blk_alloc ?_ _)); exact BK254.out) hb); have n11_ := Aside0.mk (blk_below (g := gb266) (o := .cells #[.slice Ao30 t255.length co30, .slice Ao34 t258.length co34, .slice Ao35 t261.length co35, .int .i64 t264, .int .i64 t265] 57 (0, 0)) (by (with_reducible repeat (first | refine blk_drewN ?_ _ | refine blk_drew ?_ | refine blk_alloc ?_ _)); refine blk_far ?_ NB266_278.out _; (with_reducible repeat (first | refine blk_drewN ?_ _ | refine blk_drew ?_ | refine blk_alloc ?_ _)); refine blk_far ?_ NB266_278.out _; (with_reducible repeat (first | refine blk_drewN ?_ _ | refine blk_drew ?_ | refine blk_alloc ?_ _)); refine blk_far ?_ NB266_278.out _; (with_reducible repeat (first | refine blk_drewN ?_ _ | refine blk_drew ?_ | refine blk_alloc ?_ _)); refine blk_far ?_ NB266_278.out _; (with_reducible repeat (first | refine blk_drewN ?_ _ | refine blk_drew ?_ | refine blk_alloc ?_ _)); refine blk_far ?_ NB266_278.out _; (with_reducible repeat (first | refine blk_drewN ?_ _ | refine blk_drew ?_ | refine blk_alloc ?_ _)); exact BK266.out) hb); have n12_ := Aside0.mk (blk_below (g := gb278) (o := .cells #[.slice Ao38 t267.length co38, .slice Ao43 t270.length co43, .slice Ao44 t273.length co44, .int .i64 t276, .int .i64 t277] 57 (0, 0)) (by (with_reducible repeat (first | refine blk_drewN ?_ _ | refine blk_drew ?_ | refine blk_alloc ?_ _)); refine blk_put (cs := #[.slice Ao38 t267.length co38, .slice Ao43 t270.length co43, .slice Ao44 t273.length co44, .int .i64 t276, .int .i64 0]) ?_ 4 _ rfl; (with_reducible repeat (first | refine blk_drewN ?_ _ | refine blk_drew ?_ | refine blk_alloc ?_ _)); refine blk_put (cs := #[.slice Ao38 t267.length co38, .slice Ao43 t270.length co43, .slice Ao44 t273.length co44, .int .i64 0, .int .i64 0]) ?_ 3 _ rfl; (with_reducible repeat (first | refine blk_drewN ?_ _ | refine blk_drew ?_ | refine blk_alloc ?_ _)); refine blk_put (cs := #[.slice Ao38 t267.length co38, .slice Ao43 t270.length co43, .slice none 0 0, .int .i64 0, .int .i64 0]) ?_ 2 _ rfl; (with_reducible repeat (first | refine blk_drewN ?_ _ | refine blk_drew ?_ | refine blk_alloc ?_ _)); refine blk_put (cs := #[.slice Ao38 t267.length co38, .slice none 0 0, .slice none 0 0, .int .i64 0, .int .i64 0]) ?_ 1 _ rfl; (with_reducible repeat (first | refine blk_drewN ?_ _ | refine blk_drew ?_ | refine blk_alloc ?_ _)); refine blk_put (cs := #[.slice none 0 0, .slice none 0 0, .slice none 0 0, .int .i64 0, .int .i64 0]) ?_ 0 _ rfl; (with_reducible repeat (first | refine blk_drewN ?_ _ | refine blk_drew ?_ | refine blk_alloc ?_ _)); exact BK278.out) hb); have n13_ := Aside0.mk (below_step (by repeat (first | (with_reducible first | exact HB.out | apply below_alloc | apply pw_below_drewN | apply below_drew1 | refine below_set ?_ GE230.out | refine below_set ?_ GE254.out | refine below_set ?_ GE266.out | refine below_set ?_ GE278.out) | exact HB.out)) hb); clear HO245; clear HO248; clear HO251; clear HO257; clear HO260; clear HO263; clear HO269; clear HO272; clear HO275; clear BK230; clear BK254; clear BK266; clear BK278; clear HB; have HO245 := n0_; have HO248 := n1_; have HO251 := n2_; have HO257 := n3_; have HO260 := n4_; have HO263 := n5_; have HO269 := n6_; have HO272 := n7_; have HO275 := n8_; have BK230 := n9_; have BK254 := n10_; have BK266 := n11_; have BK278 := n12_; have HB := n13_; clear n0_ n1_ n2_ n3_ n4_ n5_ n6_ n7_ n8_ n9_ n10_ n11_ n12_ n13_; (try clear hb); (try clear hb2); (try clear hk); (try clear hi)))
   (try simp only [Act.put, List.setIfInBounds_toArray, List.set_cons_zero, List.set_cons_succ])
   go_cut [] (fun wc => ∃ (kq : Nat), Aside0 (laws_FnExactTold.j1 kq a1 l0_0 l0_1 l0_2 a0_3 a0_4 t243 t246 t249 t252 t253 t255 t258 t261 t264 t265 t267 t270 t273 t276 t277 = some r) ∧ Aside0 (kq ≤ kj3) ∧ Aside0 (Kd.R k123 123 wc w.heap.size (fun k_ => some k_ ≠ ((.slice Ao30 t255.length co30) : Value).ownBlock ∧ some k_ ≠ ((.slice Ao38 t267.length co38) : Value).ownBlock) (.slice Ao22 t243.length co22) t243) ∧ Aside0 (Kd.R (Kd.int .i64) 3 wc w.heap.size (fun k_ => some k_ ≠ ((.slice Ao26 t249.length co26) : Value).ownBlock ∧ some k_ ≠ ((.slice Ao34 t258.length co34) : Value).ownBlock ∧ some k_ ≠ ((.slice Ao35 t261.length co35) : Value).ownBlock ∧ some k_ ≠ ((.slice Ao43 t270.length co43) : Value).ownBlock ∧ some k_ ≠ ((.slice Ao44 t273.length co44) : Value).ownBlock) (.slice Ao25 t246.length co25) t246) ∧ Aside0 (Kd.R (Kd.int .i64) 3 wc w.heap.size (fun k_ => some k_ ≠ ((.slice Ao25 t246.length co25) : Value).ownBlock ∧ some k_ ≠ ((.slice Ao34 t258.length co34) : Value).ownBlock ∧ some k_ ≠ ((.slice Ao35 t261.length co35) : Value).ownBlock ∧ some k_ ≠ ((.slice Ao43 t270.length co43) : Value).ownBlock ∧ some k_ ≠ ((.slice Ao44 t273.length co44) : Value).ownBlock) (.slice Ao26 t249.length co26) t249) ∧ Aside0 (Kd.R k123 123 wc w.heap.size (fun k_ => some k_ ≠ ((.slice Ao22 t243.length co22) : Value).ownBlock ∧ some k_ ≠ ((.slice Ao38 t267.length co38) : Value).ownBlock) (.slice Ao30 t255.length co30) t255) ∧ Aside0 (Kd.R (Kd.int .i64) 3 wc w.heap.size (fun k_ => some k_ ≠ ((.slice Ao25 t246.length co25) : Value).ownBlock ∧ some k_ ≠ ((.slice Ao26 t249.length co26) : Value).ownBlock ∧ some k_ ≠ ((.slice Ao35 t261.length co35) : Value).ownBlock ∧ some k_ ≠ ((.slice Ao43 t270.length co43) : Value).ownBlock ∧ some k_ ≠ ((.slice Ao44 t273.length co44) : Value).ownBlock) (.slice Ao34 t258.length co34) t258) ∧ Aside0 (Kd.R (Kd.int .i64) 3 wc w.heap.size (fun k_ => some k_ ≠ ((.slice Ao25 t246.length co25) : Value).ownBlock ∧ some k_ ≠ ((.slice Ao26 t249.length co26) : Value).ownBlock ∧ some k_ ≠ ((.slice Ao34 t258.length co34) : Value).ownBlock ∧ some k_ ≠ ((.slice Ao43 t270.length co43) : Value).ownBlock ∧ some k_ ≠ ((.slice Ao44 t273.length co44) : Value).ownBlock) (.slice Ao35 t261.length co35) t261) ∧ Aside0 (Kd.R k123 123 wc w.heap.size (fun k_ => some k_ ≠ ((.slice Ao22 t243.length co22) : Value).ownBlock ∧ some k_ ≠ ((.slice Ao30 t255.length co30) : Value).ownBlock) (.slice Ao38 t267.length co38) t267) ∧ Aside0 (Kd.R (Kd.int .i64) 3 wc w.heap.size (fun k_ => some k_ ≠ ((.slice Ao25 t246.length co25) : Value).ownBlock ∧ some k_ ≠ ((.slice Ao26 t249.length co26) : Value).ownBlock ∧ some k_ ≠ ((.slice Ao34 t258.length co34) : Value).ownBlock ∧ some k_ ≠ ((.slice Ao35 t261.length co35) : Value).ownBlock ∧ some k_ ≠ ((.slice Ao44 t273.length co44) : Value).ownBlock) (.slice Ao43 t270.length co43) t270) ∧ Aside0 (Kd.R (Kd.int .i64) 3 wc w.heap.size (fun k_ => some k_ ≠ ((.slice Ao25 t246.length co25) : Value).ownBlock ∧ some k_ ≠ ((.slice Ao26 t249.length co26) : Value).ownBlock ∧ some k_ ≠ ((.slice Ao34 t258.length co34) : Value).ownBlock ∧ some k_ ≠ ((.slice Ao35 t261.length co35) : Value).ownBlock ∧ some k_ ≠ ((.slice Ao43 t270.length co43) : Value).ownBlock) (.slice Ao44 t273.length co44) t273) ∧ Aside0 (wc.heap[gb230]? = some (.cells #[(.slice A0_0 l0_0.length c0_0), (.slice A0_1 l0_1.length c0_1), (.slice A0_2 l0_2.length c0_2), .int .i64 a0_3, .int .i64 a0_4] 77 (0, 0))) ∧ Aside0 (wc.heap[gb254]? = some (.cells #[(.slice Ao22 t243.length co22), (.slice Ao25 t246.length co25), (.slice Ao26 t249.length co26), .int .i64 t252, .int .i64 t253] 57 (0, 0))) ∧ Aside0 (wc.heap[gb266]? = some (.cells #[(.slice Ao30 t255.length co30), (.slice Ao34 t258.length co34), (.slice Ao35 t261.length co35), .int .i64 t264, .int .i64 t265] 57 (0, 0))) ∧ Aside0 (wc.heap[gb278]? = some (.cells #[(.slice Ao38 t267.length co38), (.slice Ao43 t270.length co43), (.slice Ao44 t273.length co44), .int .i64 t276, .int .i64 t277] 57 (0, 0))) ∧ Aside0 (Below w.heap.size w wc))
   case first =>
    have H := HC14.out
    clear HC14
    by_cases c47 : t279 = true
    ·
     subst c47
     have H1 : (laws_FnExactTold.j1 kj3 a1 l0_0 l0_1 l0_2 a0_3 a0_4 t243 t246 t249 t252 t253 t255 t258 t261 t264 t265 t267 t270 t273 t276 t277) = some r := by rw [if_pos rfl] at H; exact H
     clear H
     have H := H1
     clear H1
     have H' := Aside0.mk H
     clear H
     go_wp2
     go_meet
     case rel => exact ⟨_, H', ⟨by have := HJ3.out; first | omega | exact Nat.le_refl _⟩, ⟨by (with_reducible repeat (first | apply Kd.R_alloc | apply Kd.R_drewN | apply Kd.R_drew)); exact Kd.R_mono HO245.out (fun _ hk => ⟨hk.1.2, hk.2⟩)⟩, ⟨by (with_reducible repeat (first | apply Kd.R_alloc | apply Kd.R_drewN | apply Kd.R_drew)); exact Kd.R_mono HO248.out (fun _ hk => ⟨hk.1.1.1.1.1.1, ⟨hk.1.1.1.2, ⟨hk.1.1.2, ⟨hk.1.2, hk.2⟩⟩⟩⟩)⟩, ⟨by (with_reducible repeat (first | apply Kd.R_alloc | apply Kd.R_drewN | apply Kd.R_drew)); exact Kd.R_mono HO251.out (fun _ hk => ⟨hk.1.1.1.1.1.1, ⟨hk.1.1.1.2, ⟨hk.1.1.2, ⟨hk.1.2, hk.2⟩⟩⟩⟩)⟩, ⟨by (with_reducible repeat (first | apply Kd.R_alloc | apply Kd.R_drewN | apply Kd.R_drew)); exact Kd.R_mono HO257.out (fun _ hk => ⟨hk.1.2, hk.2⟩)⟩, ⟨by (with_reducible repeat (first | apply Kd.R_alloc | apply Kd.R_drewN | apply Kd.R_drew)); exact Kd.R_mono HO260.out (fun _ hk => ⟨hk.1.1.1.2, ⟨hk.1.1.2, ⟨hk.1.1.1.1, ⟨hk.1.2, hk.2⟩⟩⟩⟩)⟩, ⟨by (with_reducible repeat (first | apply Kd.R_alloc | apply Kd.R_drewN | apply Kd.R_drew)); exact Kd.R_mono HO263.out (fun _ hk => ⟨hk.1.1.1.2, ⟨hk.1.1.2, ⟨hk.1.1.1.1, ⟨hk.1.2, hk.2⟩⟩⟩⟩)⟩, ⟨by (with_reducible repeat (first | apply Kd.R_alloc | apply Kd.R_drewN | apply Kd.R_drew)); exact Kd.R_mono HO269.out (fun _ hk => ⟨hk.1.2, hk.2⟩)⟩, ⟨by (with_reducible repeat (first | apply Kd.R_alloc | apply Kd.R_drewN | apply Kd.R_drew)); exact Kd.R_mono HO272.out (fun _ hk => ⟨hk.1.1.1.2, ⟨hk.1.1.2, ⟨hk.1.2, ⟨hk.2, hk.1.1.1.1⟩⟩⟩⟩)⟩, ⟨by (with_reducible repeat (first | apply Kd.R_alloc | apply Kd.R_drewN | apply Kd.R_drew)); exact Kd.R_mono HO275.out (fun _ hk => ⟨hk.1.1.1.2, ⟨hk.1.1.2, ⟨hk.1.2, ⟨hk.2, hk.1.1.1.1⟩⟩⟩⟩)⟩, ⟨by (with_reducible repeat (first | refine blk_drewN ?_ _ | refine blk_drew ?_ | refine blk_alloc ?_ _)); exact BK230.out⟩, ⟨by (with_reducible repeat (first | refine blk_drewN ?_ _ | refine blk_drew ?_ | refine blk_alloc ?_ _)); exact BK254.out⟩, ⟨by (with_reducible repeat (first | refine blk_drewN ?_ _ | refine blk_drew ?_ | refine blk_alloc ?_ _)); exact BK266.out⟩, ⟨by (with_reducible repeat (first | refine blk_drewN ?_ _ | refine blk_drew ?_ | refine blk_alloc ?_ _)); exact BK278.out⟩, ⟨by repeat (first | (with_reducible first | exact HB.out | apply below_alloc | apply pw_below_drewN | apply below_drew1 | refine below_set ?_ GE230.out | refine below_set ?_ GE254.out | refine below_set ?_ GE266.out | refine below_set ?_ GE278.out) | exact HB.out)⟩⟩
    ·
     replace c47 := Bool.eq_false_iff.mpr c47
     subst c47
     have H1 : (some false) = some r := by rw [if_neg (show ¬ (false = true) by decide)] at H; exact H
     clear H
     have H := H1
     clear H1
     obtain rfl := Option.some.inj H
     go_wp2
     go_ret
     exact ⟨by first | rfl | (simp [errW_none, errW_some] <;> rfl) | (simp [*, errW_none, errW_some] <;> rfl), by repeat (first | (with_reducible first | exact HB.out | apply below_alloc | apply pw_below_drewN | apply below_drew1 | refine below_set ?_ GE230.out | refine below_set ?_ GE254.out | refine below_set ?_ GE266.out | refine below_set ?_ GE278.out) | exact HB.out)⟩
   case rest =>
    clear HC14
    try clear c1
    try clear c2
    try clear p2
    try clear c3
    try clear c4
    try clear c5
    try clear c8
    try clear c8b0
    try clear c10
    try clear c23
    try clear c31
    try clear c32
    try clear c39
    try clear c40
    try clear c41
    try clear c47
    try clear hcz15_0
    try clear hcz15_1
    try clear hcz15_2
    try clear hcz15_3
    try clear hcz15_4
    try clear hcz24_0
    try clear hcz24_1
    try clear hcz24_2
    try clear hcz24_3
    try clear hcz24_4
    try clear hcz27_0
    try clear hcz27_1
    try clear hcz27_2
    try clear hcz27_3
    try clear hcz27_4
    try clear hcz33_0
    try clear hcz33_1
    try clear hcz33_2
    try clear hcz33_3
    try clear hcz33_4
    try clear hcz42_0
    try clear hcz42_1
    try clear hcz42_2
    try clear hcz42_3
    try clear hcz42_4
    try clear hcz45_0
    try clear hcz45_1
    try clear hcz45_2
    try clear hcz45_3
    try clear hcz45_4
    try clear hcz6_0
    try clear hcz6_1
    try clear hcz6_2
    try clear hcz6_3
    try clear hcz6_4
    try clear hfz15_0
    try clear hfz15_1
    try clear hfz15_2
    try clear hfz15_3
    try clear hfz15_4
    try clear hfz24_0
    try clear hfz24_1
    try clear hfz24_2
    try clear hfz24_3
    try clear hfz24_4
    try clear hfz27_0
    try clear hfz27_1
    try clear hfz27_2
    try clear hfz27_3
    try clear hfz27_4
    try clear hfz33_0
    try clear hfz33_1
    try clear hfz33_2
    try clear hfz33_3
    try clear hfz33_4
    try clear hfz42_0
    try clear hfz42_1
    try clear hfz42_2
    try clear hfz42_3
    try clear hfz42_4
    try clear hfz45_0
    try clear hfz45_1
    try clear hfz45_2
    try clear hfz45_3
    try clear hfz45_4
    try clear hfz6_0
    try clear hfz6_1
    try clear hfz6_2
    try clear hfz6_3
    try clear hfz6_4
    try clear p2
    obtain ⟨kq, HA, HJ13, HO_255000, HO_255001, HO_255002, HO_267000, HO_267001, HO_267002, HO_279000, HO_279001, HO_279002, BK230, BK254, BK266, BK278, HB⟩ := hcut
    cases kq with
    | zero => exact absurd HA.out (by simp [laws_FnExactTold.j1])
    | succ kj13 =>
     have H := HA.out
     clear HA
     simp only [laws_FnExactTold.j1] at H
     replace H := Option.bind_eq_some_iff.mp H
     obtain ⟨⟨t280, t283, t286, t289, t290⟩, A480, H⟩ := H
     replace H : ((laws_eqMemory.f kj13 t255 t258 t261 t264 t265 t280 t283 t286 t289 t290).bind fun t291 => (if t291 = true then (laws_FnExactTold.j2 kj13 a1 l0_0 l0_1 l0_2 a0_3 a0_4 t243 t246 t249 t252 t253 t255 t258 t261 t264 t265 t267 t270 t273 t276 t277) else (some false))) = some r := H
     have A48 := Aside0.mk A480
     clear A480
     replace H := Option.bind_eq_some_iff.mp H
     obtain ⟨t291, A490, H⟩ := H
     replace H : (if t291 = true then (laws_FnExactTold.j2 kj13 a1 l0_0 l0_1 l0_2 a0_3 a0_4 t243 t246 t249 t252 t253 t255 t258 t261 t264 t265 t267 t270 t273 t276 t277) else (some false)) = some r := H
     have A49 := Aside0.mk A490
     clear A490
     have HC50 := Aside0.mk H
     clear H
     try go_wp2
     have n0_ := Aside0.mk (Kd.R_drew HO_255000.out)
     have n1_ := Aside0.mk (Kd.R_drew HO_255001.out)
     have n2_ := Aside0.mk (Kd.R_drew HO_255002.out)
     have n3_ := Aside0.mk (Kd.R_drew HO_267000.out)
     have n4_ := Aside0.mk (Kd.R_drew HO_267001.out)
     have n5_ := Aside0.mk (Kd.R_drew HO_267002.out)
     have n6_ := Aside0.mk (Kd.R_drew HO_279000.out)
     have n7_ := Aside0.mk (Kd.R_drew HO_279001.out)
     have n8_ := Aside0.mk (Kd.R_drew HO_279002.out)
     have n9_ := Aside0.mk (blk_drew BK230.out)
     have n10_ := Aside0.mk (blk_drew BK254.out)
     have n11_ := Aside0.mk (blk_drew BK266.out)
     have n12_ := Aside0.mk (blk_drew BK278.out)
     have n13_ := Aside0.mk (below_drew1 HB.out)
     clear HO_255000
     clear HO_255001
     clear HO_255002
     clear HO_267000
     clear HO_267001
     clear HO_267002
     clear HO_279000
     clear HO_279001
     clear HO_279002
     clear BK230
     clear BK254
     clear BK266
     clear BK278
     clear HB
     have HO_255000 := n0_
     have HO_255001 := n1_
     have HO_255002 := n2_
     have HO_267000 := n3_
     have HO_267001 := n4_
     have HO_267002 := n5_
     have HO_279000 := n6_
     have HO_279001 := n7_
     have HO_279002 := n8_
     have BK230 := n9_
     have BK254 := n10_
     have BK266 := n11_
     have BK278 := n12_
     have HB := n13_
     clear n0_ n1_ n2_ n3_ n4_ n5_ n6_ n7_ n8_ n9_ n10_ n11_ n12_ n13_
     refine start_ (n := 5) (S := fun w' => w'.cell? ⟨gb266, 0, none⟩ = some (.slice Ao30 t255.length co30) ∧ w'.cell? ⟨gb266, 1, none⟩ = some (.slice Ao34 t258.length co34) ∧ w'.cell? ⟨gb266, 2, none⟩ = some (.slice Ao35 t261.length co35) ∧ w'.cell? ⟨gb266, 3, none⟩ = some (.int .i64 t264) ∧ w'.cell? ⟨gb266, 4, none⟩ = some (.int .i64 t265) ∧ w'.cell? ⟨gb230, 0, none⟩ = some (.slice A0_0 l0_0.length c0_0) ∧ w'.cell? ⟨gb230, 1, none⟩ = some (.slice A0_1 l0_1.length c0_1) ∧ w'.cell? ⟨gb230, 2, none⟩ = some (.slice A0_2 l0_2.length c0_2) ∧ w'.cell? ⟨gb230, 3, none⟩ = some (.int .i64 a0_3) ∧ w'.cell? ⟨gb230, 4, none⟩ = some (.int .i64 a0_4)) (ds := []) #[false, false, false, false, false] (by kernel_rfl) rfl rfl ⟨(blk_cell BK266.out 0).trans rfl, (blk_cell BK266.out 1).trans rfl, (blk_cell BK266.out 2).trans rfl, (blk_cell BK266.out 3).trans rfl, (blk_cell BK266.out 4).trans rfl, (blk_cell BK230.out 0).trans rfl, (blk_cell BK230.out 1).trans rfl, (blk_cell BK230.out 2).trans rfl, (blk_cell BK230.out 3).trans rfl, (blk_cell BK230.out 4).trans rfl⟩ (fun hHeld => ?_)
     generalize wc.drew = w51 at HO_255000 HO_255001 HO_255002 HO_267000 HO_267001 HO_267002 HO_279000 HO_279001 HO_279002 BK230 BK254 BK266 BK278 HB hHeld ⊢
     refine take_ (i := 0) (N := some 31) (v := ?_) (a' := ?_) #[true, false, false, false, false] rfl rfl (by kernel_rfl) (fun _ _ _ h => h) (Or.inl ⟨by rfl, ?_⟩) hHeld ?_ ?_
     rotate_left
     ·
      rintro w' ⟨s0, s1, s2, s3, s4, s5, s6, s7, s8, s9⟩
      go_simp
      with_reducible rfl
     rotate_left
     ·
      simp only [Act.put, List.setIfInBounds_toArray, List.set_cons_zero, List.set_cons_succ, i64_w, i32_w]
      rfl
     refine take_ (i := 1) (N := some 32) (v := ?_) (a' := ?_) #[true, true, false, false, false] rfl rfl (by kernel_rfl) (fun _ _ _ h => h) (Or.inl ⟨by rfl, ?_⟩) hHeld ?_ ?_
     rotate_left
     ·
      rintro w' ⟨s0, s1, s2, s3, s4, s5, s6, s7, s8, s9⟩
      go_simp
      with_reducible rfl
     rotate_left
     ·
      simp only [Act.put, List.setIfInBounds_toArray, List.set_cons_zero, List.set_cons_succ, i64_w, i32_w]
      rfl
     refine one_ (i := 2) (N := some 33) #[true, true, true, false, false] rfl rfl (by kernel_rfl) (by decide) (fun K hK => ?_)
     refine goes_ Try.func53 (by kernel_rfl) rfl #[.agg #[.slice A0_0 l0_0.length c0_0, .slice A0_1 l0_1.length c0_1, .slice A0_2 l0_2.length c0_2, .int .i64 a0_3, .int .i64 a0_4]] (by rfl) rfl rfl (by (try simp only [List.map_toArray, List.map_cons, List.map_nil]); first | done | rfl | (simp only [List.length_drop, List.length_take]; rfl)) ?_
     with_reducible refine (laws_toMemory.calls kj13 _ _ l0_0 _ _ l0_1 _ _ l0_2 a0_3 a0_4 t280 t283 t286 t289 t290 _ ?side1 ?side2 ?side3 ?side4 ?side5 ?side6 A48.out).mono ?_
     (case side1 => repeat (first | exact (Kd.C_below HR0_0.out HB.out) | (with_reducible refine Kd.C_alloc ?_ _) | (with_reducible refine Kd.C_drewN ?_ _) | (with_reducible refine Kd.C_drew ?_)))
     (case side2 => exact HC0_0.out)
     (case side3 => repeat (first | exact (Kd.C_below HR0_1.out HB.out) | (with_reducible refine Kd.C_alloc ?_ _) | (with_reducible refine Kd.C_drewN ?_ _) | (with_reducible refine Kd.C_drew ?_)))
     (case side4 => exact HC0_1.out)
     (case side5 => repeat (first | exact (Kd.C_below HR0_2.out HB.out) | (with_reducible refine Kd.C_alloc ?_ _) | (with_reducible refine Kd.C_drewN ?_ _) | (with_reducible refine Kd.C_drew ?_)))
     (case side6 => exact HC0_2.out)
     rintro e w52 ⟨v281, v284, v287, rfl, ho0, ho1, ho2, hb⟩
     refine ⟨_, rfl, ?_⟩
     have n0_ := Aside0.mk (Kd.R_elder' (by (with_reducible repeat (first | apply Kd.R_alloc | apply Kd.R_drewN | apply Kd.R_drew)); exact HO_255000.out) (Kd.R_base ho0) hb)
     have n1_ := Aside0.mk (Kd.R_mono (Kd.R_told (Kd.R_told (Kd.R_old (by (with_reducible repeat (first | apply Kd.R_alloc | apply Kd.R_drewN | apply Kd.R_drew)); exact HO_255001.out) hb) (Kd.R_base ho1)) (Kd.R_base ho2)) (fun _ h_ => h_.1))
     have n2_ := Aside0.mk (Kd.R_mono (Kd.R_told (Kd.R_told (Kd.R_old (by (with_reducible repeat (first | apply Kd.R_alloc | apply Kd.R_drewN | apply Kd.R_drew)); exact HO_255002.out) hb) (Kd.R_base ho1)) (Kd.R_base ho2)) (fun _ h_ => h_.1))
     have n3_ := Aside0.mk (Kd.R_elder' (by (with_reducible repeat (first | apply Kd.R_alloc | apply Kd.R_drewN | apply Kd.R_drew)); exact HO_267000.out) (Kd.R_base ho0) hb)
     have n4_ := Aside0.mk (Kd.R_mono (Kd.R_told (Kd.R_told (Kd.R_old (by (with_reducible repeat (first | apply Kd.R_alloc | apply Kd.R_drewN | apply Kd.R_drew)); exact HO_267001.out) hb) (Kd.R_base ho1)) (Kd.R_base ho2)) (fun _ h_ => h_.1))
     have n5_ := Aside0.mk (Kd.R_mono (Kd.R_told (Kd.R_told (Kd.R_old (by (with_reducible repeat (first | apply Kd.R_alloc | apply Kd.R_drewN | apply Kd.R_drew)); exact HO_267002.out) hb) (Kd.R_base ho1)) (Kd.R_base ho2)) (fun _ h_ => h_.1))
     have n6_ := Aside0.mk (Kd.R_elder' (by (with_reducible repeat (first | apply Kd.R_alloc | apply Kd.R_drewN | apply Kd.R_drew)); exact HO_279000.out) (Kd.R_base ho0) hb)
     have n7_ := Aside0.mk (Kd.R_mono (Kd.R_told (Kd.R_told (Kd.R_old (by (with_reducible repeat (first | apply Kd.R_alloc | apply Kd.R_drewN | apply Kd.R_drew)); exact HO_279001.out) hb) (Kd.R_base ho1)) (Kd.R_base ho2)) (fun _ h_ => h_.1))
     have n8_ := Aside0.mk (Kd.R_mono (Kd.R_told (Kd.R_told (Kd.R_old (by (with_reducible repeat (first | apply Kd.R_alloc | apply Kd.R_drewN | apply Kd.R_drew)); exact HO_279002.out) hb) (Kd.R_base ho1)) (Kd.R_base ho2)) (fun _ h_ => h_.1))
     have n9_ := Aside0.mk (Kd.R_lower (Kd.R_new' (Kd.R_new' (Kd.R_new' ho0 (Kd.R_lt (by (with_reducible repeat (first | apply Kd.R_alloc | apply Kd.R_drewN | apply Kd.R_drew)); exact HO_255000.out))) (Kd.R_lt (by (with_reducible repeat (first | apply Kd.R_alloc | apply Kd.R_drewN | apply Kd.R_drew)); exact HO_267000.out))) (Kd.R_lt (by (with_reducible repeat (first | apply Kd.R_alloc | apply Kd.R_drewN | apply Kd.R_drew)); exact HO_279000.out))) (below_size (by repeat (first | (with_reducible first | exact HB.out | apply below_alloc | apply pw_below_drewN | apply below_drew1 | refine below_set ?_ GE230.out | refine below_set ?_ GE254.out | refine below_set ?_ GE266.out | refine below_set ?_ GE278.out) | exact HB.out))))
     have n10_ := Aside0.mk (Kd.R_lower (Kd.R_new' (Kd.R_new' (Kd.R_new' (Kd.R_new' (Kd.R_new' (Kd.R_new' ho1 (Kd.R_lt (by (with_reducible repeat (first | apply Kd.R_alloc | apply Kd.R_drewN | apply Kd.R_drew)); exact HO_255001.out))) (Kd.R_lt (by (with_reducible repeat (first | apply Kd.R_alloc | apply Kd.R_drewN | apply Kd.R_drew)); exact HO_255002.out))) (Kd.R_lt (by (with_reducible repeat (first | apply Kd.R_alloc | apply Kd.R_drewN | apply Kd.R_drew)); exact HO_267001.out))) (Kd.R_lt (by (with_reducible repeat (first | apply Kd.R_alloc | apply Kd.R_drewN | apply Kd.R_drew)); exact HO_267002.out))) (Kd.R_lt (by (with_reducible repeat (first | apply Kd.R_alloc | apply Kd.R_drewN | apply Kd.R_drew)); exact HO_279001.out))) (Kd.R_lt (by (with_reducible repeat (first | apply Kd.R_alloc | apply Kd.R_drewN | apply Kd.R_drew)); exact HO_279002.out))) (below_size (by repeat (first | (with_reducible first | exact HB.out | apply below_alloc | apply pw_below_drewN | apply below_drew1 | refine below_set ?_ GE230.out | refine below_set ?_ GE254.out | refine below_set ?_ GE266.out | refine below_set ?_ GE278.out) | exact HB.out))))
     have n11_ := Aside0.mk (Kd.R_lower (Kd.R_new' (Kd.R_new' (Kd.R_new' (Kd.R_new' (Kd.R_new' (Kd.R_new' ho2 (Kd.R_lt (by (with_reducible repeat (first | apply Kd.R_alloc | apply Kd.R_drewN | apply Kd.R_drew)); exact HO_255001.out))) (Kd.R_lt (by (with_reducible repeat (first | apply Kd.R_alloc | apply Kd.R_drewN | apply Kd.R_drew)); exact HO_255002.out))) (Kd.R_lt (by (with_reducible repeat (first | apply Kd.R_alloc | apply Kd.R_drewN | apply Kd.R_drew)); exact HO_267001.out))) (Kd.R_lt (by (with_reducible repeat (first | apply Kd.R_alloc | apply Kd.R_drewN | apply Kd.R_drew)); exact HO_267002.out))) (Kd.R_lt (by (with_reducible repeat (first | apply Kd.R_alloc | apply Kd.R_drewN | apply Kd.R_drew)); exact HO_279001.out))) (Kd.R_lt (by (with_reducible repeat (first | apply Kd.R_alloc | apply Kd.R_drewN | apply Kd.R_drew)); exact HO_279002.out))) (below_size (by repeat (first | (with_reducible first | exact HB.out | apply below_alloc | apply pw_below_drewN | apply below_drew1 | refine below_set ?_ GE230.out | refine below_set ?_ GE254.out | refine below_set ?_ GE266.out | refine below_set ?_ GE278.out) | exact HB.out))))
     have n12_ := Aside0.mk (blk_below (g := gb230) (o := .cells #[.slice A0_0 l0_0.length c0_0, .slice A0_1 l0_1.length c0_1, .slice A0_2 l0_2.length c0_2, .int .i64 a0_3, .int .i64 a0_4] 77 (0, 0)) (by (with_reducible repeat (first | refine blk_drewN ?_ _ | refine blk_drew ?_ | refine blk_alloc ?_ _)); exact BK230.out) hb)
     have n13_ := Aside0.mk (blk_below (g := gb254) (o := .cells #[.slice Ao22 t243.length co22, .slice Ao25 t246.length co25, .slice Ao26 t249.length co26, .int .i64 t252, .int .i64 t253] 57 (0, 0)) (by (with_reducible repeat (first | refine blk_drewN ?_ _ | refine blk_drew ?_ | refine blk_alloc ?_ _)); exact BK254.out) hb)
     have n14_ := Aside0.mk (blk_below (g := gb266) (o := .cells #[.slice Ao30 t255.length co30, .slice Ao34 t258.length co34, .slice Ao35 t261.length co35, .int .i64 t264, .int .i64 t265] 57 (0, 0)) (by (with_reducible repeat (first | refine blk_drewN ?_ _ | refine blk_drew ?_ | refine blk_alloc ?_ _)); exact BK266.out) hb)
     have n15_ := Aside0.mk (blk_below (g := gb278) (o := .cells #[.slice Ao38 t267.length co38, .slice Ao43 t270.length co43, .slice Ao44 t273.length co44, .int .i64 t276, .int .i64 t277] 57 (0, 0)) (by (with_reducible repeat (first | refine blk_drewN ?_ _ | refine blk_drew ?_ | refine blk_alloc ?_ _)); exact BK278.out) hb)
     have n16_ := Aside0.mk (below_step (by repeat (first | (with_reducible first | exact HB.out | apply below_alloc | apply pw_below_drewN | apply below_drew1 | refine below_set ?_ GE230.out | refine below_set ?_ GE254.out | refine below_set ?_ GE266.out | refine below_set ?_ GE278.out) | exact HB.out)) hb)
     clear HO_255000
     clear HO_255001
     clear HO_255002
     clear HO_267000
     clear HO_267001
     clear HO_267002
     clear HO_279000
     clear HO_279001
     clear HO_279002
     clear BK230
     clear BK254
     clear BK266
     clear BK278
     clear HB
     have HO_255000 := n0_
     have HO_255001 := n1_
     have HO_255002 := n2_
     have HO_267000 := n3_
     have HO_267001 := n4_
     have HO_267002 := n5_
     have HO_279000 := n6_
     have HO_279001 := n7_
     have HO_279002 := n8_
     have HO282 := n9_
     have HO285 := n10_
     have HO288 := n11_
     have BK230 := n12_
     have BK254 := n13_
     have BK266 := n14_
     have BK278 := n15_
     have HB := n16_
     clear n0_ n1_ n2_ n3_ n4_ n5_ n6_ n7_ n8_ n9_ n10_ n11_ n12_ n13_ n14_ n15_ n16_
     (try clear hb)
     (try clear hb2)
     (try clear hk)
     (try clear hi)
     (try clear ho0)
     (try clear ho1)
     (try clear ho2)
     obtain ⟨Ao53, co53, eo53⟩ := Kd.R_slice HO282.out
     (first | subst eo53 | (injection eo53 with f1_ f2_ f3_; have f4_ := f1_.symm; have f5_ := f3_.symm; clear f1_ f2_ f3_; subst f4_; subst f5_))
     obtain ⟨Ao54, co54, eo54⟩ := Kd.R_slice HO285.out
     (first | subst eo54 | (injection eo54 with f1_ f2_ f3_; have f4_ := f1_.symm; have f5_ := f3_.symm; clear f1_ f2_ f3_; subst f4_; subst f5_))
     obtain ⟨Ao55, co55, eo55⟩ := Kd.R_slice HO288.out
     (first | subst eo55 | (injection eo55 with f1_ f2_ f3_; have f4_ := f1_.symm; have f5_ := f3_.symm; clear f1_ f2_ f3_; subst f4_; subst f5_))
     refine hK.out _ _ ⟨(blk_cell BK266.out 0).trans rfl, (blk_cell BK266.out 1).trans rfl, (blk_cell BK266.out 2).trans rfl, (blk_cell BK266.out 3).trans rfl, (blk_cell BK266.out 4).trans rfl, (blk_cell BK230.out 0).trans rfl, (blk_cell BK230.out 1).trans rfl, (blk_cell BK230.out 2).trans rfl, (blk_cell BK230.out 3).trans rfl, (blk_cell BK230.out 4).trans rfl⟩ (fun hHeld => ?_)
     clear hK K
     refine norm_ (a' := ?_) ?_ ?_
     rotate_left
     ·
      show Act.put _ (some 33) _ = _
      simp only [Act.put, List.setIfInBounds_toArray, List.set_cons_zero, List.set_cons_succ, i64_w, i32_w]
      rfl
     refine one_ (i := 3) (N := some 34) #[true, true, true, true, false] rfl rfl (by kernel_rfl) (by decide) (fun K hK => ?_)
     refine goes_ Try.func40 (by kernel_rfl) rfl #[.agg #[.slice Ao30 t255.length co30, .slice Ao34 t258.length co34, .slice Ao35 t261.length co35, .int .i64 t264, .int .i64 t265], .agg #[.slice Ao53 t280.length co53, .slice Ao54 t283.length co54, .slice Ao55 t286.length co55, .int .i64 t289, .int .i64 t290]] (by rfl) rfl rfl (by (try simp only [List.map_toArray, List.map_cons, List.map_nil]); first | done | rfl | (simp only [List.length_drop, List.length_take]; rfl)) ?_
     with_reducible refine (laws_eqMemory.calls kj13 _ _ t255 _ _ t258 _ _ t261 t264 t265 _ _ t280 _ _ t283 _ _ t286 t289 t290 t291 _ ?side1 ?side2 ?side3 ?side4 ?side5 ?side6 ?side7 ?side8 ?side9 ?side10 ?side11 ?side12 A49.out).mono ?_
     (case side1 => repeat (first | exact (Kd.R_reads' HO_267000.out).2.2 | (with_reducible refine Kd.C_alloc ?_ _) | (with_reducible refine Kd.C_drewN ?_ _) | (with_reducible refine Kd.C_drew ?_)))
     (case side2 => exact (Kd.R_reads' HO_267000.out).2.1)
     (case side3 => repeat (first | exact (Kd.R_reads' HO_267001.out).2.2 | (with_reducible refine Kd.C_alloc ?_ _) | (with_reducible refine Kd.C_drewN ?_ _) | (with_reducible refine Kd.C_drew ?_)))
     (case side4 => exact (Kd.R_reads' HO_267001.out).2.1)
     (case side5 => repeat (first | exact (Kd.R_reads' HO_267002.out).2.2 | (with_reducible refine Kd.C_alloc ?_ _) | (with_reducible refine Kd.C_drewN ?_ _) | (with_reducible refine Kd.C_drew ?_)))
     (case side6 => exact (Kd.R_reads' HO_267002.out).2.1)
     (case side7 => repeat (first | exact (Kd.R_reads' HO282.out).2.2 | (with_reducible refine Kd.C_alloc ?_ _) | (with_reducible refine Kd.C_drewN ?_ _) | (with_reducible refine Kd.C_drew ?_)))
     (case side8 => exact (Kd.R_reads' HO282.out).2.1)
     (case side9 => repeat (first | exact (Kd.R_reads' HO285.out).2.2 | (with_reducible refine Kd.C_alloc ?_ _) | (with_reducible refine Kd.C_drewN ?_ _) | (with_reducible refine Kd.C_drew ?_)))
     (case side10 => exact (Kd.R_reads' HO285.out).2.1)
     (case side11 => repeat (first | exact (Kd.R_reads' HO288.out).2.2 | (with_reducible refine Kd.C_alloc ?_ _) | (with_reducible refine Kd.C_drewN ?_ _) | (with_reducible refine Kd.C_drew ?_)))
     (case side12 => exact (Kd.R_reads' HO288.out).2.1)
     rintro e w56 ⟨rfl, hb⟩
     refine ⟨_, rfl, ?_⟩
     have n0_ := Aside0.mk (Kd.R_below (by (with_reducible repeat (first | apply Kd.R_alloc | apply Kd.R_drewN | apply Kd.R_drew)); exact HO_255000.out) hb)
     have n1_ := Aside0.mk (Kd.R_below (by (with_reducible repeat (first | apply Kd.R_alloc | apply Kd.R_drewN | apply Kd.R_drew)); exact HO_255001.out) hb)
     have n2_ := Aside0.mk (Kd.R_below (by (with_reducible repeat (first | apply Kd.R_alloc | apply Kd.R_drewN | apply Kd.R_drew)); exact HO_255002.out) hb)
     have n3_ := Aside0.mk (Kd.R_below (by (with_reducible repeat (first | apply Kd.R_alloc | apply Kd.R_drewN | apply Kd.R_drew)); exact HO_267000.out) hb)
     have n4_ := Aside0.mk (Kd.R_below (by (with_reducible repeat (first | apply Kd.R_alloc | apply Kd.R_drewN | apply Kd.R_drew)); exact HO_267001.out) hb)
     have n5_ := Aside0.mk (Kd.R_below (by (with_reducible repeat (first | apply Kd.R_alloc | apply Kd.R_drewN | apply Kd.R_drew)); exact HO_267002.out) hb)
     have n6_ := Aside0.mk (Kd.R_below (by (with_reducible repeat (first | apply Kd.R_alloc | apply Kd.R_drewN | apply Kd.R_drew)); exact HO_279000.out) hb)
     have n7_ := Aside0.mk (Kd.R_below (by (with_reducible repeat (first | apply Kd.R_alloc | apply Kd.R_drewN | apply Kd.R_drew)); exact HO_279001.out) hb)
     have n8_ := Aside0.mk (Kd.R_below (by (with_reducible repeat (first | apply Kd.R_alloc | apply Kd.R_drewN | apply Kd.R_drew)); exact HO_279002.out) hb)
     have n9_ := Aside0.mk (Kd.R_below (by (with_reducible repeat (first | apply Kd.R_alloc | apply Kd.R_drewN | apply Kd.R_drew)); exact HO282.out) hb)
     have n10_ := Aside0.mk (Kd.R_below (by (with_reducible repeat (first | apply Kd.R_alloc | apply Kd.R_drewN | apply Kd.R_drew)); exact HO285.out) hb)
     have n11_ := Aside0.mk (Kd.R_below (by (with_reducible repeat (first | apply Kd.R_alloc | apply Kd.R_drewN | apply Kd.R_drew)); exact HO288.out) hb)
     have n12_ := Aside0.mk (blk_below (g := gb230) (o := .cells #[.slice A0_0 l0_0.length c0_0, .slice A0_1 l0_1.length c0_1, .slice A0_2 l0_2.length c0_2, .int .i64 a0_3, .int .i64 a0_4] 77 (0, 0)) (by (with_reducible repeat (first | refine blk_drewN ?_ _ | refine blk_drew ?_ | refine blk_alloc ?_ _)); exact BK230.out) hb)
     have n13_ := Aside0.mk (blk_below (g := gb254) (o := .cells #[.slice Ao22 t243.length co22, .slice Ao25 t246.length co25, .slice Ao26 t249.length co26, .int .i64 t252, .int .i64 t253] 57 (0, 0)) (by (with_reducible repeat (first | refine blk_drewN ?_ _ | refine blk_drew ?_ | refine blk_alloc ?_ _)); exact BK254.out) hb)
     have n14_ := Aside0.mk (blk_below (g := gb266) (o := .cells #[.slice Ao30 t255.length co30, .slice Ao34 t258.length co34, .slice Ao35 t261.length co35, .int .i64 t264, .int .i64 t265] 57 (0, 0)) (by (with_reducible repeat (first | refine blk_drewN ?_ _ | refine blk_drew ?_ | refine blk_alloc ?_ _)); exact BK266.out) hb)
     have n15_ := Aside0.mk (blk_below (g := gb278) (o := .cells #[.slice Ao38 t267.length co38, .slice Ao43 t270.length co43, .slice Ao44 t273.length co44, .int .i64 t276, .int .i64 t277] 57 (0, 0)) (by (with_reducible repeat (first | refine blk_drewN ?_ _ | refine blk_drew ?_ | refine blk_alloc ?_ _)); exact BK278.out) hb)
     have n16_ := Aside0.mk (below_step (by repeat (first | (with_reducible first | exact HB.out | apply below_alloc | apply pw_below_drewN | apply below_drew1 | refine below_set ?_ GE230.out | refine below_set ?_ GE254.out | refine below_set ?_ GE266.out | refine below_set ?_ GE278.out) | exact HB.out)) hb)
     clear HO_255000
     clear HO_255001
     clear HO_255002
     clear HO_267000
     clear HO_267001
     clear HO_267002
     clear HO_279000
     clear HO_279001
     clear HO_279002
     clear HO282
     clear HO285
     clear HO288
     clear BK230
     clear BK254
     clear BK266
     clear BK278
     clear HB
     have HO_255000 := n0_
     have HO_255001 := n1_
     have HO_255002 := n2_
     have HO_267000 := n3_
     have HO_267001 := n4_
     have HO_267002 := n5_
     have HO_279000 := n6_
     have HO_279001 := n7_
     have HO_279002 := n8_
     have HO282 := n9_
     have HO285 := n10_
     have HO288 := n11_
     have BK230 := n12_
     have BK254 := n13_
     have BK266 := n14_
     have BK278 := n15_
     have HB := n16_
     clear n0_ n1_ n2_ n3_ n4_ n5_ n6_ n7_ n8_ n9_ n10_ n11_ n12_ n13_ n14_ n15_ n16_
     (try clear hb)
     (try clear hb2)
     (try clear hk)
     (try clear hi)
     refine hK.out _ _ ⟨(blk_cell BK266.out 0).trans rfl, (blk_cell BK266.out 1).trans rfl, (blk_cell BK266.out 2).trans rfl, (blk_cell BK266.out 3).trans rfl, (blk_cell BK266.out 4).trans rfl, (blk_cell BK230.out 0).trans rfl, (blk_cell BK230.out 1).trans rfl, (blk_cell BK230.out 2).trans rfl, (blk_cell BK230.out 3).trans rfl, (blk_cell BK230.out 4).trans rfl⟩ (fun hHeld => ?_)
     clear hK K
     refine norm_ (a' := ?_) ?_ ?_
     rotate_left
     ·
      show Act.put _ (some 34) _ = _
      simp only [Act.put, List.setIfInBounds_toArray, List.set_cons_zero, List.set_cons_succ, i64_w, i32_w]
      rfl
     refine pure_ (i := 4) (N := some 35) (v := ?_) (a' := ?_) #[true, true, true, true, true] rfl rfl (by kernel_rfl) (fun _ _ _ h => h) (Or.inl ⟨by rfl, ?_⟩) ?_ ?_
     rotate_left
     ·
      intro w'
      go_simp
      with_reducible rfl
     rotate_left
     ·
      simp only [Act.put, List.setIfInBounds_toArray, List.set_cons_zero, List.set_cons_succ, i64_w, i32_w]
      rfl
     refine done_ (by kernel_rfl) ?_
     go_upto_if 35 with (fail)
     go_cut [] (fun wc => ∃ (kq : Nat), Aside0 (laws_FnExactTold.j2 kq a1 l0_0 l0_1 l0_2 a0_3 a0_4 t243 t246 t249 t252 t253 t255 t258 t261 t264 t265 t267 t270 t273 t276 t277 = some r) ∧ Aside0 (kq ≤ kj13) ∧ Aside0 (Kd.R k123 123 wc w.heap.size (fun k_ => some k_ ≠ ((.slice Ao30 t255.length co30) : Value).ownBlock ∧ some k_ ≠ ((.slice Ao38 t267.length co38) : Value).ownBlock) (.slice Ao22 t243.length co22) t243) ∧ Aside0 (Kd.R (Kd.int .i64) 3 wc w.heap.size (fun k_ => some k_ ≠ ((.slice Ao26 t249.length co26) : Value).ownBlock ∧ some k_ ≠ ((.slice Ao34 t258.length co34) : Value).ownBlock ∧ some k_ ≠ ((.slice Ao35 t261.length co35) : Value).ownBlock ∧ some k_ ≠ ((.slice Ao43 t270.length co43) : Value).ownBlock ∧ some k_ ≠ ((.slice Ao44 t273.length co44) : Value).ownBlock) (.slice Ao25 t246.length co25) t246) ∧ Aside0 (Kd.R (Kd.int .i64) 3 wc w.heap.size (fun k_ => some k_ ≠ ((.slice Ao25 t246.length co25) : Value).ownBlock ∧ some k_ ≠ ((.slice Ao34 t258.length co34) : Value).ownBlock ∧ some k_ ≠ ((.slice Ao35 t261.length co35) : Value).ownBlock ∧ some k_ ≠ ((.slice Ao43 t270.length co43) : Value).ownBlock ∧ some k_ ≠ ((.slice Ao44 t273.length co44) : Value).ownBlock) (.slice Ao26 t249.length co26) t249) ∧ Aside0 (Kd.R k123 123 wc w.heap.size (fun k_ => some k_ ≠ ((.slice Ao22 t243.length co22) : Value).ownBlock ∧ some k_ ≠ ((.slice Ao38 t267.length co38) : Value).ownBlock) (.slice Ao30 t255.length co30) t255) ∧ Aside0 (Kd.R (Kd.int .i64) 3 wc w.heap.size (fun k_ => some k_ ≠ ((.slice Ao25 t246.length co25) : Value).ownBlock ∧ some k_ ≠ ((.slice Ao26 t249.length co26) : Value).ownBlock ∧ some k_ ≠ ((.slice Ao35 t261.length co35) : Value).ownBlock ∧ some k_ ≠ ((.slice Ao43 t270.length co43) : Value).ownBlock ∧ some k_ ≠ ((.slice Ao44 t273.length co44) : Value).ownBlock) (.slice Ao34 t258.length co34) t258) ∧ Aside0 (Kd.R (Kd.int .i64) 3 wc w.heap.size (fun k_ => some k_ ≠ ((.slice Ao25 t246.length co25) : Value).ownBlock ∧ some k_ ≠ ((.slice Ao26 t249.length co26) : Value).ownBlock ∧ some k_ ≠ ((.slice Ao34 t258.length co34) : Value).ownBlock ∧ some k_ ≠ ((.slice Ao43 t270.length co43) : Value).ownBlock ∧ some k_ ≠ ((.slice Ao44 t273.length co44) : Value).ownBlock) (.slice Ao35 t261.length co35) t261) ∧ Aside0 (Kd.R k123 123 wc w.heap.size (fun k_ => some k_ ≠ ((.slice Ao22 t243.length co22) : Value).ownBlock ∧ some k_ ≠ ((.slice Ao30 t255.length co30) : Value).ownBlock) (.slice Ao38 t267.length co38) t267) ∧ Aside0 (Kd.R (Kd.int .i64) 3 wc w.heap.size (fun k_ => some k_ ≠ ((.slice Ao25 t246.length co25) : Value).ownBlock ∧ some k_ ≠ ((.slice Ao26 t249.length co26) : Value).ownBlock ∧ some k_ ≠ ((.slice Ao34 t258.length co34) : Value).ownBlock ∧ some k_ ≠ ((.slice Ao35 t261.length co35) : Value).ownBlock ∧ some k_ ≠ ((.slice Ao44 t273.length co44) : Value).ownBlock) (.slice Ao43 t270.length co43) t270) ∧ Aside0 (Kd.R (Kd.int .i64) 3 wc w.heap.size (fun k_ => some k_ ≠ ((.slice Ao25 t246.length co25) : Value).ownBlock ∧ some k_ ≠ ((.slice Ao26 t249.length co26) : Value).ownBlock ∧ some k_ ≠ ((.slice Ao34 t258.length co34) : Value).ownBlock ∧ some k_ ≠ ((.slice Ao35 t261.length co35) : Value).ownBlock ∧ some k_ ≠ ((.slice Ao43 t270.length co43) : Value).ownBlock) (.slice Ao44 t273.length co44) t273) ∧ Aside0 (wc.heap[gb230]? = some (.cells #[(.slice A0_0 l0_0.length c0_0), (.slice A0_1 l0_1.length c0_1), (.slice A0_2 l0_2.length c0_2), .int .i64 a0_3, .int .i64 a0_4] 77 (0, 0))) ∧ Aside0 (wc.heap[gb254]? = some (.cells #[(.slice Ao22 t243.length co22), (.slice Ao25 t246.length co25), (.slice Ao26 t249.length co26), .int .i64 t252, .int .i64 t253] 57 (0, 0))) ∧ Aside0 (wc.heap[gb266]? = some (.cells #[(.slice Ao30 t255.length co30), (.slice Ao34 t258.length co34), (.slice Ao35 t261.length co35), .int .i64 t264, .int .i64 t265] 57 (0, 0))) ∧ Aside0 (wc.heap[gb278]? = some (.cells #[(.slice Ao38 t267.length co38), (.slice Ao43 t270.length co43), (.slice Ao44 t273.length co44), .int .i64 t276, .int .i64 t277] 57 (0, 0))) ∧ Aside0 (Below w.heap.size w wc))
     case first =>
      have H := HC50.out
      clear HC50
      by_cases c57 : t291 = true
      ·
       subst c57
       have H1 : (laws_FnExactTold.j2 kj13 a1 l0_0 l0_1 l0_2 a0_3 a0_4 t243 t246 t249 t252 t253 t255 t258 t261 t264 t265 t267 t270 t273 t276 t277) = some r := by rw [if_pos rfl] at H; exact H
       clear H
       have H := H1
       clear H1
       have H' := Aside0.mk H
       clear H
       go_wp2
       go_meet
       case rel => exact ⟨_, H', ⟨by have := HJ3.out; have := HJ13.out; first | omega | exact Nat.le_refl _⟩, ⟨by (with_reducible repeat (first | apply Kd.R_alloc | apply Kd.R_drewN | apply Kd.R_drew)); exact Kd.R_mono HO_255000.out (fun _ hk => ⟨hk.1.1, hk.1.2⟩)⟩, ⟨by (with_reducible repeat (first | apply Kd.R_alloc | apply Kd.R_drewN | apply Kd.R_drew)); exact Kd.R_mono HO_255001.out (fun _ hk => ⟨hk.1.1.1, ⟨hk.1.1.2.1, ⟨hk.1.1.2.2.1, ⟨hk.1.1.2.2.2.1, hk.1.1.2.2.2.2⟩⟩⟩⟩)⟩, ⟨by (with_reducible repeat (first | apply Kd.R_alloc | apply Kd.R_drewN | apply Kd.R_drew)); exact Kd.R_mono HO_255002.out (fun _ hk => ⟨hk.1.1.1, ⟨hk.1.1.2.1, ⟨hk.1.1.2.2.1, ⟨hk.1.1.2.2.2.1, hk.1.1.2.2.2.2⟩⟩⟩⟩)⟩, ⟨by (with_reducible repeat (first | apply Kd.R_alloc | apply Kd.R_drewN | apply Kd.R_drew)); exact Kd.R_mono HO_267000.out (fun _ hk => ⟨hk.1.1, hk.1.2⟩)⟩, ⟨by (with_reducible repeat (first | apply Kd.R_alloc | apply Kd.R_drewN | apply Kd.R_drew)); exact Kd.R_mono HO_267001.out (fun _ hk => ⟨hk.1.1.1, ⟨hk.1.1.2.1, ⟨hk.1.1.2.2.1, ⟨hk.1.1.2.2.2.1, hk.1.1.2.2.2.2⟩⟩⟩⟩)⟩, ⟨by (with_reducible repeat (first | apply Kd.R_alloc | apply Kd.R_drewN | apply Kd.R_drew)); exact Kd.R_mono HO_267002.out (fun _ hk => ⟨hk.1.1.1, ⟨hk.1.1.2.1, ⟨hk.1.1.2.2.1, ⟨hk.1.1.2.2.2.1, hk.1.1.2.2.2.2⟩⟩⟩⟩)⟩, ⟨by (with_reducible repeat (first | apply Kd.R_alloc | apply Kd.R_drewN | apply Kd.R_drew)); exact Kd.R_mono HO_279000.out (fun _ hk => ⟨hk.1.1, hk.1.2⟩)⟩, ⟨by (with_reducible repeat (first | apply Kd.R_alloc | apply Kd.R_drewN | apply Kd.R_drew)); exact Kd.R_mono HO_279001.out (fun _ hk => ⟨hk.1.1.1, ⟨hk.1.1.2.1, ⟨hk.1.1.2.2.1, ⟨hk.1.1.2.2.2.1, hk.1.1.2.2.2.2⟩⟩⟩⟩)⟩, ⟨by (with_reducible repeat (first | apply Kd.R_alloc | apply Kd.R_drewN | apply Kd.R_drew)); exact Kd.R_mono HO_279002.out (fun _ hk => ⟨hk.1.1.1, ⟨hk.1.1.2.1, ⟨hk.1.1.2.2.1, ⟨hk.1.1.2.2.2.1, hk.1.1.2.2.2.2⟩⟩⟩⟩)⟩, ⟨by (with_reducible repeat (first | refine blk_drewN ?_ _ | refine blk_drew ?_ | refine blk_alloc ?_ _)); exact BK230.out⟩, ⟨by (with_reducible repeat (first | refine blk_drewN ?_ _ | refine blk_drew ?_ | refine blk_alloc ?_ _)); exact BK254.out⟩, ⟨by (with_reducible repeat (first | refine blk_drewN ?_ _ | refine blk_drew ?_ | refine blk_alloc ?_ _)); exact BK266.out⟩, ⟨by (with_reducible repeat (first | refine blk_drewN ?_ _ | refine blk_drew ?_ | refine blk_alloc ?_ _)); exact BK278.out⟩, ⟨by repeat (first | (with_reducible first | exact HB.out | apply below_alloc | apply pw_below_drewN | apply below_drew1 | refine below_set ?_ GE230.out | refine below_set ?_ GE254.out | refine below_set ?_ GE266.out | refine below_set ?_ GE278.out) | exact HB.out)⟩⟩
      ·
       replace c57 := Bool.eq_false_iff.mpr c57
       subst c57
       have H1 : (some false) = some r := by rw [if_neg (show ¬ (false = true) by decide)] at H; exact H
       clear H
       have H := H1
       clear H1
       obtain rfl := Option.some.inj H
       go_wp2
       go_ret
       exact ⟨by first | rfl | (simp [errW_none, errW_some] <;> rfl) | (simp [*, errW_none, errW_some] <;> rfl), by repeat (first | (with_reducible first | exact HB.out | apply below_alloc | apply pw_below_drewN | apply below_drew1 | refine below_set ?_ GE230.out | refine below_set ?_ GE254.out | refine below_set ?_ GE266.out | refine below_set ?_ GE278.out) | exact HB.out)⟩
     case rest =>
      clear HC50
      try clear c1
      try clear c2
      try clear p2
      try clear c3
      try clear c4
      try clear c5
      try clear c8
      try clear c8b0
      try clear c10
      try clear c23
      try clear c31
      try clear c32
      try clear c39
      try clear c40
      try clear c41
      try clear c47
      try clear c51
      try clear c52
      try clear c53
      try clear c54
      try clear c57
      try clear hcz15_0
      try clear hcz15_1
      try clear hcz15_2
      try clear hcz15_3
      try clear hcz15_4
      try clear hcz24_0
      try clear hcz24_1
      try clear hcz24_2
      try clear hcz24_3
      try clear hcz24_4
      try clear hcz27_0
      try clear hcz27_1
      try clear hcz27_2
      try clear hcz27_3
      try clear hcz27_4
      try clear hcz33_0
      try clear hcz33_1
      try clear hcz33_2
      try clear hcz33_3
      try clear hcz33_4
      try clear hcz42_0
      try clear hcz42_1
      try clear hcz42_2
      try clear hcz42_3
      try clear hcz42_4
      try clear hcz45_0
      try clear hcz45_1
      try clear hcz45_2
      try clear hcz45_3
      try clear hcz45_4
      try clear hcz6_0
      try clear hcz6_1
      try clear hcz6_2
      try clear hcz6_3
      try clear hcz6_4
      try clear hfz15_0
      try clear hfz15_1
      try clear hfz15_2
      try clear hfz15_3
      try clear hfz15_4
      try clear hfz24_0
      try clear hfz24_1
      try clear hfz24_2
      try clear hfz24_3
      try clear hfz24_4
      try clear hfz27_0
      try clear hfz27_1
      try clear hfz27_2
      try clear hfz27_3
      try clear hfz27_4
      try clear hfz33_0
      try clear hfz33_1
      try clear hfz33_2
      try clear hfz33_3
      try clear hfz33_4
      try clear hfz42_0
      try clear hfz42_1
      try clear hfz42_2
      try clear hfz42_3
      try clear hfz42_4
      try clear hfz45_0
      try clear hfz45_1
      try clear hfz45_2
      try clear hfz45_3
      try clear hfz45_4
      try clear hfz6_0
      try clear hfz6_1
      try clear hfz6_2
      try clear hfz6_3
      try clear hfz6_4
      try clear p2
      obtain ⟨kq, HA, HJ49, HO_255000, HO_255001, HO_255002, HO_267000, HO_267001, HO_267002, HO_279000, HO_279001, HO_279002, BK230, BK254, BK266, BK278, HB⟩ := hcut
      cases kq with
      | zero => exact absurd HA.out (by simp [laws_FnExactTold.j2])
      | succ kj49 =>
       have H := HA.out
       clear HA
       simp only [laws_FnExactTold.j2] at H
       replace H := Option.bind_eq_some_iff.mp H
       obtain ⟨⟨t292, t293, t294, t295⟩, A580, H⟩ := H
       replace H : (if t292 < 0 then (laws_FnExactTold.j3 kj49 a1 true l0_0 l0_1 l0_2 a0_3 a0_4 t243 t246 t249 t252 t253 t267 t270 t273 t276 t277) else ((laws_eqMemory.f kj49 t267 t270 t273 t276 t277 t243 t246 t249 t252 t253).bind fun t296 => (laws_FnExactTold.j3 kj49 a1 (!t296) l0_0 l0_1 l0_2 a0_3 a0_4 t243 t246 t249 t252 t253 t267 t270 t273 t276 t277))) = some r := H
       have A58 := Aside0.mk A580
       clear A580
       have HC59 := Aside0.mk H
       clear H
       have hnb60 := NB266_230.out
       have hnc60 := NB230_266.out
       have hnb61 := NB266_254.out
       have hnc61 := NB254_266.out
       have hnb62 := NB266_278.out
       have hnc62 := NB278_266.out
       have hcz63_0 : wc.cell? ⟨gb266, 0, none⟩ = some (.slice Ao30 t255.length co30) := (blk_cell BK266.out 0).trans rfl
       have hcz63_1 : wc.cell? ⟨gb266, 1, none⟩ = some (.slice Ao34 t258.length co34) := (blk_cell BK266.out 1).trans rfl
       have hcz63_2 : wc.cell? ⟨gb266, 2, none⟩ = some (.slice Ao35 t261.length co35) := (blk_cell BK266.out 2).trans rfl
       have hcz63_3 : wc.cell? ⟨gb266, 3, none⟩ = some (.int .i64 t264) := (blk_cell BK266.out 3).trans rfl
       have hcz63_4 : wc.cell? ⟨gb266, 4, none⟩ = some (.int .i64 t265) := (blk_cell BK266.out 4).trans rfl
       have hfz63_0 := blk_frozen BK266.out 0
       have hfz63_1 := blk_frozen BK266.out 1
       have hfz63_2 := blk_frozen BK266.out 2
       have hfz63_3 := blk_frozen BK266.out 3
       have hfz63_4 := blk_frozen BK266.out 4
       go_upto_region 14 with (first | ((with_reducible refine gate_callee (f := 43) rfl ?_); refine goesL_ (some 38) rfl rfl Try.func43 (by kernel_rfl) rfl #[.agg #[.slice Ao30 t255.length co30, .slice Ao34 t258.length co34, .slice Ao35 t261.length co35, .int .i64 t264, .int .i64 t265], .int .i64 1] rfl (by (try simp only [List.map_toArray, List.map_cons, List.map_nil]); first | done | rfl | (simp only [List.length_drop, List.length_take]; rfl)) ?_; (with_reducible refine (laws_markMemory.calls kj49 (fun k_ => some k_ = (.slice Ao30 t255.length co30 : Value).ownBlock) (.slice Ao30 t255.length co30) t255 (fun k_ => some k_ = (.slice Ao34 t258.length co34 : Value).ownBlock) (.slice Ao34 t258.length co34) t258 (fun k_ => some k_ = (.slice Ao35 t261.length co35 : Value).ownBlock) (.slice Ao35 t261.length co35) t261 t264 t265 1 t292 t293 t294 t295 w _ ?side1 ?side2 ?side3 ?side4 ?side5 ?side6 A58.out).mono ?_); (case side1 => repeat (first | (with_reducible first | exact HB.out | apply below_alloc | apply pw_below_drewN | apply below_drew1 | refine below_set ?_ GE230.out | refine below_set ?_ GE254.out | refine below_set ?_ GE266.out | refine below_set ?_ GE278.out) | exact HB.out)); (case side2 => exact Kd.R_tight rfl HO_267000.out); (case side3 => exact Kd.R_tight rfl HO_267001.out); (case side4 => exact fun k_ e_ => (HO_267001.out.1 k_ e_.symm).2.2.1); (case side5 => exact Kd.R_tight rfl HO_267002.out); (case side6 => exact fun k_ e_ => (HO_267002.out.1 k_ e_.symm).2.2.1); rintro e w64 ⟨rfl, hy0, hy1, hy2, hb, hkp⟩; refine ⟨_, rfl, ?_⟩; have n0_ := Aside0.mk (Kd.R_mono (ok' := fun k_ => some k_ ≠ (.slice Ao30 t255.length co30 : Value).ownBlock ∧ some k_ ≠ (.slice Ao38 t267.length co38 : Value).ownBlock) (Kd.R_keptB ((Kd.R_apart' (Kd.R_apart' HO_255000.out (Kd.R_typed HO_267001.out) (by decide)) (Kd.R_typed HO_267002.out) (by decide))) hkp (fun k_ hk_ hs_ => Or.elim hs_ (fun e_ => (hk_.1.1.1) e_) (fun e_ => Or.elim e_ (fun e_ => (hk_.1.2) e_) (fun e_ => (hk_.2) e_)))) (fun k_ hk_ => ⟨hk_.1.1.1.1, hk_.1.1.1.2⟩)); have n1_ := Aside0.mk (Kd.R_mono (ok' := fun k_ => some k_ ≠ (.slice Ao26 t249.length co26 : Value).ownBlock ∧ some k_ ≠ (.slice Ao34 t258.length co34 : Value).ownBlock ∧ some k_ ≠ (.slice Ao35 t261.length co35 : Value).ownBlock ∧ some k_ ≠ (.slice Ao43 t270.length co43 : Value).ownBlock ∧ some k_ ≠ (.slice Ao44 t273.length co44 : Value).ownBlock) (Kd.R_keptB ((Kd.R_apart' HO_255001.out (Kd.R_typed HO_267000.out) (by decide))) hkp (fun k_ hk_ hs_ => Or.elim hs_ (fun e_ => (hk_.2) e_) (fun e_ => Or.elim e_ (fun e_ => (hk_.1.2.1) e_) (fun e_ => (hk_.1.2.2.1) e_)))) (fun k_ hk_ => ⟨hk_.1.1.1, hk_.1.1.2.1, hk_.1.1.2.2.1, hk_.1.1.2.2.2.1, hk_.1.1.2.2.2.2⟩)); have n2_ := Aside0.mk (Kd.R_mono (ok' := fun k_ => some k_ ≠ (.slice Ao25 t246.length co25 : Value).ownBlock ∧ some k_ ≠ (.slice Ao34 t258.length co34 : Value).ownBlock ∧ some k_ ≠ (.slice Ao35 t261.length co35 : Value).ownBlock ∧ some k_ ≠ (.slice Ao43 t270.length co43 : Value).ownBlock ∧ some k_ ≠ (.slice Ao44 t273.length co44 : Value).ownBlock) (Kd.R_keptB ((Kd.R_apart' HO_255002.out (Kd.R_typed HO_267000.out) (by decide))) hkp (fun k_ hk_ hs_ => Or.elim hs_ (fun e_ => (hk_.2) e_) (fun e_ => Or.elim e_ (fun e_ => (hk_.1.2.1) e_) (fun e_ => (hk_.1.2.2.1) e_)))) (fun k_ hk_ => ⟨hk_.1.1.1, hk_.1.1.2.1, hk_.1.1.2.2.1, hk_.1.1.2.2.2.1, hk_.1.1.2.2.2.2⟩)); have n3_ := Aside0.mk (Kd.R_reok rfl hy0 (fun k_ e_ => HO_267000.out.1 k_ e_)); have n4_ := Aside0.mk (Kd.R_reok rfl hy1 (fun k_ e_ => HO_267001.out.1 k_ e_)); have n5_ := Aside0.mk (Kd.R_reok rfl hy2 (fun k_ e_ => HO_267002.out.1 k_ e_)); have n6_ := Aside0.mk (Kd.R_mono (ok' := fun k_ => some k_ ≠ (.slice Ao22 t243.length co22 : Value).ownBlock ∧ some k_ ≠ (.slice Ao30 t255.length co30 : Value).ownBlock) (Kd.R_keptB ((Kd.R_apart' (Kd.R_apart' HO_279000.out (Kd.R_typed HO_267001.out) (by decide)) (Kd.R_typed HO_267002.out) (by decide))) hkp (fun k_ hk_ hs_ => Or.elim hs_ (fun e_ => (hk_.1.1.2) e_) (fun e_ => Or.elim e_ (fun e_ => (hk_.1.2) e_) (fun e_ => (hk_.2) e_)))) (fun k_ hk_ => ⟨hk_.1.1.1.1, hk_.1.1.1.2⟩)); have n7_ := Aside0.mk (Kd.R_mono (ok' := fun k_ => some k_ ≠ (.slice Ao25 t246.length co25 : Value).ownBlock ∧ some k_ ≠ (.slice Ao26 t249.length co26 : Value).ownBlock ∧ some k_ ≠ (.slice Ao34 t258.length co34 : Value).ownBlock ∧ some k_ ≠ (.slice Ao35 t261.length co35 : Value).ownBlock ∧ some k_ ≠ (.slice Ao44 t273.length co44 : Value).ownBlock) (Kd.R_keptB ((Kd.R_apart' HO_279001.out (Kd.R_typed HO_267000.out) (by decide))) hkp (fun k_ hk_ hs_ => Or.elim hs_ (fun e_ => (hk_.2) e_) (fun e_ => Or.elim e_ (fun e_ => (hk_.1.2.2.1) e_) (fun e_ => (hk_.1.2.2.2.1) e_)))) (fun k_ hk_ => ⟨hk_.1.1.1, hk_.1.1.2.1, hk_.1.1.2.2.1, hk_.1.1.2.2.2.1, hk_.1.1.2.2.2.2⟩)); have n8_ := Aside0.mk (Kd.R_mono (ok' := fun k_ => some k_ ≠ (.slice Ao25 t246.length co25 : Value).ownBlock ∧ some k_ ≠ (.slice Ao26 t249.length co26 : Value).ownBlock ∧ some k_ ≠ (.slice Ao34 t258.length co34 : Value).ownBlock ∧ some k_ ≠ (.slice Ao35 t261.length co35 : Value).ownBlock ∧ some k_ ≠ (.slice Ao43 t270.length co43 : Value).ownBlock) (Kd.R_keptB ((Kd.R_apart' HO_279002.out (Kd.R_typed HO_267000.out) (by decide))) hkp (fun k_ hk_ hs_ => Or.elim hs_ (fun e_ => (hk_.2) e_) (fun e_ => Or.elim e_ (fun e_ => (hk_.1.2.2.1) e_) (fun e_ => (hk_.1.2.2.2.1) e_)))) (fun k_ hk_ => ⟨hk_.1.1.1, hk_.1.1.2.1, hk_.1.1.2.2.1, hk_.1.1.2.2.2.1, hk_.1.1.2.2.2.2⟩)); have n9_ := Aside0.mk (blk_kept (by (with_reducible repeat (first | refine blk_drewN ?_ _ | refine blk_drew ?_ | refine blk_alloc ?_ _)); exact BK230.out) hkp (fun hs_ => Or.elim hs_ (fun e_ => (fun e_ => (Kd.R_ne HO_267000.out BK230.out (by decide)) e_) e_) (fun e_ => Or.elim e_ (fun e_ => (fun e_ => (Kd.R_ne HO_267001.out BK230.out (by decide)) e_) e_) (fun e_ => (fun e_ => (Kd.R_ne HO_267002.out BK230.out (by decide)) e_) e_)))); have n10_ := Aside0.mk (blk_kept (by (with_reducible repeat (first | refine blk_drewN ?_ _ | refine blk_drew ?_ | refine blk_alloc ?_ _)); exact BK254.out) hkp (fun hs_ => Or.elim hs_ (fun e_ => (fun e_ => (Kd.R_ne HO_267000.out BK254.out (by decide)) e_) e_) (fun e_ => Or.elim e_ (fun e_ => (fun e_ => (Kd.R_ne HO_267001.out BK254.out (by decide)) e_) e_) (fun e_ => (fun e_ => (Kd.R_ne HO_267002.out BK254.out (by decide)) e_) e_)))); have n11_ := Aside0.mk (blk_kept (by (with_reducible repeat (first | refine blk_drewN ?_ _ | refine blk_drew ?_ | refine blk_alloc ?_ _)); exact BK266.out) hkp (fun hs_ => Or.elim hs_ (fun e_ => (fun e_ => (Kd.R_ne HO_267000.out BK266.out (by decide)) e_) e_) (fun e_ => Or.elim e_ (fun e_ => (fun e_ => (Kd.R_ne HO_267001.out BK266.out (by decide)) e_) e_) (fun e_ => (fun e_ => (Kd.R_ne HO_267002.out BK266.out (by decide)) e_) e_)))); have n12_ := Aside0.mk (blk_kept (by (with_reducible repeat (first | refine blk_drewN ?_ _ | refine blk_drew ?_ | refine blk_alloc ?_ _)); exact BK278.out) hkp (fun hs_ => Or.elim hs_ (fun e_ => (fun e_ => (Kd.R_ne HO_267000.out BK278.out (by decide)) e_) e_) (fun e_ => Or.elim e_ (fun e_ => (fun e_ => (Kd.R_ne HO_267001.out BK278.out (by decide)) e_) e_) (fun e_ => (fun e_ => (Kd.R_ne HO_267002.out BK278.out (by decide)) e_) e_)))); have n13_ := Aside0.mk (hb); clear HO_255000; clear HO_255001; clear HO_255002; clear HO_267000; clear HO_267001; clear HO_267002; clear HO_279000; clear HO_279001; clear HO_279002; clear BK230; clear BK254; clear BK266; clear BK278; clear HB; have HO_255000 := n0_; have HO_255001 := n1_; have HO_255002 := n2_; have HO_267000 := n3_; have HO_267001 := n4_; have HO_267002 := n5_; have HO_279000 := n6_; have HO_279001 := n7_; have HO_279002 := n8_; have BK230 := n9_; have BK254 := n10_; have BK266 := n11_; have BK278 := n12_; have HB := n13_; clear n0_ n1_ n2_ n3_ n4_ n5_ n6_ n7_ n8_ n9_ n10_ n11_ n12_ n13_; (try clear hb); (try clear hkp); (try clear hy0); (try clear hy1); (try clear hy2)))
       (try simp only [Act.put, List.setIfInBounds_toArray, List.set_cons_zero, List.set_cons_succ])
       go_cut [46] (fun v46 wc => ∃ (kq : Nat) (x46_58 : Bool), v46 = .bool x46_58 ∧ Aside0 (laws_FnExactTold.j3 kq a1 x46_58 l0_0 l0_1 l0_2 a0_3 a0_4 t243 t246 t249 t252 t253 t267 t270 t273 t276 t277 = some r) ∧ Aside0 (kq ≤ kj49) ∧ Aside0 (Kd.R k123 123 wc w.heap.size (fun k_ => some k_ ≠ ((.slice Ao30 t255.length co30) : Value).ownBlock ∧ some k_ ≠ ((.slice Ao38 t267.length co38) : Value).ownBlock) (.slice Ao22 t243.length co22) t243) ∧ Aside0 (Kd.R (Kd.int .i64) 3 wc w.heap.size (fun k_ => some k_ ≠ ((.slice Ao26 t249.length co26) : Value).ownBlock ∧ some k_ ≠ ((.slice Ao34 t258.length co34) : Value).ownBlock ∧ some k_ ≠ ((.slice Ao35 t261.length co35) : Value).ownBlock ∧ some k_ ≠ ((.slice Ao43 t270.length co43) : Value).ownBlock ∧ some k_ ≠ ((.slice Ao44 t273.length co44) : Value).ownBlock) (.slice Ao25 t246.length co25) t246) ∧ Aside0 (Kd.R (Kd.int .i64) 3 wc w.heap.size (fun k_ => some k_ ≠ ((.slice Ao25 t246.length co25) : Value).ownBlock ∧ some k_ ≠ ((.slice Ao34 t258.length co34) : Value).ownBlock ∧ some k_ ≠ ((.slice Ao35 t261.length co35) : Value).ownBlock ∧ some k_ ≠ ((.slice Ao43 t270.length co43) : Value).ownBlock ∧ some k_ ≠ ((.slice Ao44 t273.length co44) : Value).ownBlock) (.slice Ao26 t249.length co26) t249) ∧ Aside0 (Kd.R k123 123 wc w.heap.size (fun k_ => some k_ ≠ ((.slice Ao22 t243.length co22) : Value).ownBlock ∧ some k_ ≠ ((.slice Ao38 t267.length co38) : Value).ownBlock) (.slice Ao30 t255.length co30) t293) ∧ Aside0 (Kd.R (Kd.int .i64) 3 wc w.heap.size (fun k_ => some k_ ≠ ((.slice Ao25 t246.length co25) : Value).ownBlock ∧ some k_ ≠ ((.slice Ao26 t249.length co26) : Value).ownBlock ∧ some k_ ≠ ((.slice Ao35 t261.length co35) : Value).ownBlock ∧ some k_ ≠ ((.slice Ao43 t270.length co43) : Value).ownBlock ∧ some k_ ≠ ((.slice Ao44 t273.length co44) : Value).ownBlock) (.slice Ao34 t258.length co34) t294) ∧ Aside0 (Kd.R (Kd.int .i64) 3 wc w.heap.size (fun k_ => some k_ ≠ ((.slice Ao25 t246.length co25) : Value).ownBlock ∧ some k_ ≠ ((.slice Ao26 t249.length co26) : Value).ownBlock ∧ some k_ ≠ ((.slice Ao34 t258.length co34) : Value).ownBlock ∧ some k_ ≠ ((.slice Ao43 t270.length co43) : Value).ownBlock ∧ some k_ ≠ ((.slice Ao44 t273.length co44) : Value).ownBlock) (.slice Ao35 t261.length co35) t295) ∧ Aside0 (Kd.R k123 123 wc w.heap.size (fun k_ => some k_ ≠ ((.slice Ao22 t243.length co22) : Value).ownBlock ∧ some k_ ≠ ((.slice Ao30 t255.length co30) : Value).ownBlock) (.slice Ao38 t267.length co38) t267) ∧ Aside0 (Kd.R (Kd.int .i64) 3 wc w.heap.size (fun k_ => some k_ ≠ ((.slice Ao25 t246.length co25) : Value).ownBlock ∧ some k_ ≠ ((.slice Ao26 t249.length co26) : Value).ownBlock ∧ some k_ ≠ ((.slice Ao34 t258.length co34) : Value).ownBlock ∧ some k_ ≠ ((.slice Ao35 t261.length co35) : Value).ownBlock ∧ some k_ ≠ ((.slice Ao44 t273.length co44) : Value).ownBlock) (.slice Ao43 t270.length co43) t270) ∧ Aside0 (Kd.R (Kd.int .i64) 3 wc w.heap.size (fun k_ => some k_ ≠ ((.slice Ao25 t246.length co25) : Value).ownBlock ∧ some k_ ≠ ((.slice Ao26 t249.length co26) : Value).ownBlock ∧ some k_ ≠ ((.slice Ao34 t258.length co34) : Value).ownBlock ∧ some k_ ≠ ((.slice Ao35 t261.length co35) : Value).ownBlock ∧ some k_ ≠ ((.slice Ao43 t270.length co43) : Value).ownBlock) (.slice Ao44 t273.length co44) t273) ∧ Aside0 (wc.heap[gb230]? = some (.cells #[(.slice A0_0 l0_0.length c0_0), (.slice A0_1 l0_1.length c0_1), (.slice A0_2 l0_2.length c0_2), .int .i64 a0_3, .int .i64 a0_4] 77 (0, 0))) ∧ Aside0 (wc.heap[gb254]? = some (.cells #[(.slice Ao22 t243.length co22), (.slice Ao25 t246.length co25), (.slice Ao26 t249.length co26), .int .i64 t252, .int .i64 t253] 57 (0, 0))) ∧ Aside0 (wc.heap[gb266]? = some (.cells #[(.slice Ao30 t255.length co30), (.slice Ao34 t258.length co34), (.slice Ao35 t261.length co35), .int .i64 t264, .int .i64 t265] 57 (0, 0))) ∧ Aside0 (wc.heap[gb278]? = some (.cells #[(.slice Ao38 t267.length co38), (.slice Ao43 t270.length co43), (.slice Ao44 t273.length co44), .int .i64 t276, .int .i64 t277] 57 (0, 0))) ∧ Aside0 (Below w.heap.size w wc))
       case first =>
        have H := HC59.out
        clear HC59
        by_cases c65 : t292 < 0
        ·
         rw [if_pos c65] at H
         have c65b0 : decide (t292 < 0) = true := decide_eq_true c65
         clear c65
         (first | rw [c65b0] | (simp only [i64_w, i32_w]; rw [c65b0]) | skip)
         have H' := Aside0.mk H
         clear H
         go_wp2
         go_meet
         case rel => exact ⟨_, (true), (by first | rfl | (simp; done) | (simp [*]; done)), H', ⟨by have := HJ3.out; have := HJ13.out; have := HJ49.out; first | omega | exact Nat.le_refl _⟩, ⟨by (with_reducible repeat (first | apply Kd.R_alloc | apply Kd.R_drewN | apply Kd.R_drew)); exact HO_255000.out⟩, ⟨by (with_reducible repeat (first | apply Kd.R_alloc | apply Kd.R_drewN | apply Kd.R_drew)); exact HO_255001.out⟩, ⟨by (with_reducible repeat (first | apply Kd.R_alloc | apply Kd.R_drewN | apply Kd.R_drew)); exact HO_255002.out⟩, ⟨by (with_reducible repeat (first | apply Kd.R_alloc | apply Kd.R_drewN | apply Kd.R_drew)); exact HO_267000.out⟩, ⟨by (with_reducible repeat (first | apply Kd.R_alloc | apply Kd.R_drewN | apply Kd.R_drew)); exact HO_267001.out⟩, ⟨by (with_reducible repeat (first | apply Kd.R_alloc | apply Kd.R_drewN | apply Kd.R_drew)); exact HO_267002.out⟩, ⟨by (with_reducible repeat (first | apply Kd.R_alloc | apply Kd.R_drewN | apply Kd.R_drew)); exact HO_279000.out⟩, ⟨by (with_reducible repeat (first | apply Kd.R_alloc | apply Kd.R_drewN | apply Kd.R_drew)); exact HO_279001.out⟩, ⟨by (with_reducible repeat (first | apply Kd.R_alloc | apply Kd.R_drewN | apply Kd.R_drew)); exact HO_279002.out⟩, ⟨by (with_reducible repeat (first | refine blk_drewN ?_ _ | refine blk_drew ?_ | refine blk_alloc ?_ _)); exact BK230.out⟩, ⟨by (with_reducible repeat (first | refine blk_drewN ?_ _ | refine blk_drew ?_ | refine blk_alloc ?_ _)); exact BK254.out⟩, ⟨by (with_reducible repeat (first | refine blk_drewN ?_ _ | refine blk_drew ?_ | refine blk_alloc ?_ _)); exact BK266.out⟩, ⟨by (with_reducible repeat (first | refine blk_drewN ?_ _ | refine blk_drew ?_ | refine blk_alloc ?_ _)); exact BK278.out⟩, ⟨by repeat (first | (with_reducible first | exact HB.out | apply below_alloc | apply pw_below_drewN | apply below_drew1 | refine below_set ?_ GE230.out | refine below_set ?_ GE254.out | refine below_set ?_ GE266.out | refine below_set ?_ GE278.out) | exact HB.out)⟩⟩
        ·
         rw [if_neg c65] at H
         have c65b0 : decide (t292 < 0) = false := decide_eq_false c65
         clear c65
         (first | rw [c65b0] | (simp only [i64_w, i32_w]; rw [c65b0]) | skip)
         replace H := Option.bind_eq_some_iff.mp H
         obtain ⟨t296, A660, H⟩ := H
         replace H : (laws_FnExactTold.j3 kj49 a1 (!t296) l0_0 l0_1 l0_2 a0_3 a0_4 t243 t246 t249 t252 t253 t267 t270 t273 t276 t277) = some r := H
         have A66 := Aside0.mk A660
         clear A660
         have H' := Aside0.mk H
         clear H
         have hnb67 := NB278_230.out
         have hnc67 := NB230_278.out
         have hnb68 := NB278_254.out
         have hnc68 := NB254_278.out
         have hnb69 := NB278_266.out
         have hnc69 := NB266_278.out
         have hcz70_0 : w64.cell? ⟨gb278, 0, none⟩ = some (.slice Ao38 t267.length co38) := (blk_cell BK278.out 0).trans rfl
         have hcz70_1 : w64.cell? ⟨gb278, 1, none⟩ = some (.slice Ao43 t270.length co43) := (blk_cell BK278.out 1).trans rfl
         have hcz70_2 : w64.cell? ⟨gb278, 2, none⟩ = some (.slice Ao44 t273.length co44) := (blk_cell BK278.out 2).trans rfl
         have hcz70_3 : w64.cell? ⟨gb278, 3, none⟩ = some (.int .i64 t276) := (blk_cell BK278.out 3).trans rfl
         have hcz70_4 : w64.cell? ⟨gb278, 4, none⟩ = some (.int .i64 t277) := (blk_cell BK278.out 4).trans rfl
         have hfz70_0 := blk_frozen BK278.out 0
         have hfz70_1 := blk_frozen BK278.out 1
         have hfz70_2 := blk_frozen BK278.out 2
         have hfz70_3 := blk_frozen BK278.out 3
         have hfz70_4 := blk_frozen BK278.out 4
         have hnb71 := NB254_230.out
         have hnc71 := NB230_254.out
         have hnb72 := NB254_266.out
         have hnc72 := NB266_254.out
         have hcz73_0 : w64.cell? ⟨gb254, 0, none⟩ = some (.slice Ao22 t243.length co22) := (blk_cell BK254.out 0).trans rfl
         have hcz73_1 : w64.cell? ⟨gb254, 1, none⟩ = some (.slice Ao25 t246.length co25) := (blk_cell BK254.out 1).trans rfl
         have hcz73_2 : w64.cell? ⟨gb254, 2, none⟩ = some (.slice Ao26 t249.length co26) := (blk_cell BK254.out 2).trans rfl
         have hcz73_3 : w64.cell? ⟨gb254, 3, none⟩ = some (.int .i64 t252) := (blk_cell BK254.out 3).trans rfl
         have hcz73_4 : w64.cell? ⟨gb254, 4, none⟩ = some (.int .i64 t253) := (blk_cell BK254.out 4).trans rfl
         have hfz73_0 := blk_frozen BK254.out 0
         have hfz73_1 := blk_frozen BK254.out 1
         have hfz73_2 := blk_frozen BK254.out 2
         have hfz73_3 := blk_frozen BK254.out 3
         have hfz73_4 := blk_frozen BK254.out 4
         go_wp2_with (first | (go_at_call 40; (with_reducible refine (laws_eqMemory.calls kj49 _ _ t267 _ _ t270 _ _ t273 t276 t277 _ _ t243 _ _ t246 _ _ t249 t252 t253 t296 _ ?side1 ?side2 ?side3 ?side4 ?side5 ?side6 ?side7 ?side8 ?side9 ?side10 ?side11 ?side12 A66.out).mono ?_); (case side1 => repeat (first | exact (Kd.R_reads' HO_279000.out).2.2 | (with_reducible refine Kd.C_alloc ?_ _) | (with_reducible refine Kd.C_drewN ?_ _) | (with_reducible refine Kd.C_drew ?_))); (case side2 => exact (Kd.R_reads' HO_279000.out).2.1); (case side3 => repeat (first | exact (Kd.R_reads' HO_279001.out).2.2 | (with_reducible refine Kd.C_alloc ?_ _) | (with_reducible refine Kd.C_drewN ?_ _) | (with_reducible refine Kd.C_drew ?_))); (case side4 => exact (Kd.R_reads' HO_279001.out).2.1); (case side5 => repeat (first | exact (Kd.R_reads' HO_279002.out).2.2 | (with_reducible refine Kd.C_alloc ?_ _) | (with_reducible refine Kd.C_drewN ?_ _) | (with_reducible refine Kd.C_drew ?_))); (case side6 => exact (Kd.R_reads' HO_279002.out).2.1); (case side7 => repeat (first | exact (Kd.R_reads' HO_255000.out).2.2 | (with_reducible refine Kd.C_alloc ?_ _) | (with_reducible refine Kd.C_drewN ?_ _) | (with_reducible refine Kd.C_drew ?_))); (case side8 => exact (Kd.R_reads' HO_255000.out).2.1); (case side9 => repeat (first | exact (Kd.R_reads' HO_255001.out).2.2 | (with_reducible refine Kd.C_alloc ?_ _) | (with_reducible refine Kd.C_drewN ?_ _) | (with_reducible refine Kd.C_drew ?_))); (case side10 => exact (Kd.R_reads' HO_255001.out).2.1); (case side11 => repeat (first | exact (Kd.R_reads' HO_255002.out).2.2 | (with_reducible refine Kd.C_alloc ?_ _) | (with_reducible refine Kd.C_drewN ?_ _) | (with_reducible refine Kd.C_drew ?_))); (case side12 => exact (Kd.R_reads' HO_255002.out).2.1); rintro e w74 ⟨rfl, hb⟩; have n0_ := Aside0.mk (Kd.R_below (by (with_reducible repeat (first | apply Kd.R_alloc | apply Kd.R_drewN | apply Kd.R_drew)); exact HO_255000.out) hb); have n1_ := Aside0.mk (Kd.R_below (by (with_reducible repeat (first | apply Kd.R_alloc | apply Kd.R_drewN | apply Kd.R_drew)); exact HO_255001.out) hb); have n2_ := Aside0.mk (Kd.R_below (by (with_reducible repeat (first | apply Kd.R_alloc | apply Kd.R_drewN | apply Kd.R_drew)); exact HO_255002.out) hb); have n3_ := Aside0.mk (Kd.R_below (by (with_reducible repeat (first | apply Kd.R_alloc | apply Kd.R_drewN | apply Kd.R_drew)); exact HO_267000.out) hb); have n4_ := Aside0.mk (Kd.R_below (by (with_reducible repeat (first | apply Kd.R_alloc | apply Kd.R_drewN | apply Kd.R_drew)); exact HO_267001.out) hb); have n5_ := Aside0.mk (Kd.R_below (by (with_reducible repeat (first | apply Kd.R_alloc | apply Kd.R_drewN | apply Kd.R_drew)); exact HO_267002.out) hb); have n6_ := Aside0.mk (Kd.R_below (by (with_reducible repeat (first | apply Kd.R_alloc | apply Kd.R_drewN | apply Kd.R_drew)); exact HO_279000.out) hb); have n7_ := Aside0.mk (Kd.R_below (by (with_reducible repeat (first | apply Kd.R_alloc | apply Kd.R_drewN | apply Kd.R_drew)); exact HO_279001.out) hb); have n8_ := Aside0.mk (Kd.R_below (by (with_reducible repeat (first | apply Kd.R_alloc | apply Kd.R_drewN | apply Kd.R_drew)); exact HO_279002.out) hb); have n9_ := Aside0.mk (blk_below (g := gb230) (o := .cells #[.slice A0_0 l0_0.length c0_0, .slice A0_1 l0_1.length c0_1, .slice A0_2 l0_2.length c0_2, .int .i64 a0_3, .int .i64 a0_4] 77 (0, 0)) (by (with_reducible repeat (first | refine blk_drewN ?_ _ | refine blk_drew ?_ | refine blk_alloc ?_ _)); exact BK230.out) hb); have n10_ := Aside0.mk (blk_below (g := gb254) (o := .cells #[.slice Ao22 t243.length co22, .slice Ao25 t246.length co25, .slice Ao26 t249.length co26, .int .i64 t252, .int .i64 t253] 57 (0, 0)) (by (with_reducible repeat (first | refine blk_drewN ?_ _ | refine blk_drew ?_ | refine blk_alloc ?_ _)); exact BK254.out) hb); have n11_ := Aside0.mk (blk_below (g := gb266) (o := .cells #[.slice Ao30 t255.length co30, .slice Ao34 t258.length co34, .slice Ao35 t261.length co35, .int .i64 t264, .int .i64 t265] 57 (0, 0)) (by (with_reducible repeat (first | refine blk_drewN ?_ _ | refine blk_drew ?_ | refine blk_alloc ?_ _)); exact BK266.out) hb); have n12_ := Aside0.mk (blk_below (g := gb278) (o := .cells #[.slice Ao38 t267.length co38, .slice Ao43 t270.length co43, .slice Ao44 t273.length co44, .int .i64 t276, .int .i64 t277] 57 (0, 0)) (by (with_reducible repeat (first | refine blk_drewN ?_ _ | refine blk_drew ?_ | refine blk_alloc ?_ _)); exact BK278.out) hb); have n13_ := Aside0.mk (below_step (by repeat (first | (with_reducible first | exact HB.out | apply below_alloc | apply pw_below_drewN | apply below_drew1 | refine below_set ?_ GE230.out | refine below_set ?_ GE254.out | refine below_set ?_ GE266.out | refine below_set ?_ GE278.out) | exact HB.out)) hb); clear HO_255000; clear HO_255001; clear HO_255002; clear HO_267000; clear HO_267001; clear HO_267002; clear HO_279000; clear HO_279001; clear HO_279002; clear BK230; clear BK254; clear BK266; clear BK278; clear HB; have HO_255000 := n0_; have HO_255001 := n1_; have HO_255002 := n2_; have HO_267000 := n3_; have HO_267001 := n4_; have HO_267002 := n5_; have HO_279000 := n6_; have HO_279001 := n7_; have HO_279002 := n8_; have BK230 := n9_; have BK254 := n10_; have BK266 := n11_; have BK278 := n12_; have HB := n13_; clear n0_ n1_ n2_ n3_ n4_ n5_ n6_ n7_ n8_ n9_ n10_ n11_ n12_ n13_; (try clear hb); (try clear hb2); (try clear hk); (try clear hi)))
         go_meet
         case rel => exact ⟨_, (!t296), (by first | rfl | (simp; done) | (simp [*]; done)), H', ⟨by have := HJ3.out; have := HJ13.out; have := HJ49.out; first | omega | exact Nat.le_refl _⟩, ⟨by (with_reducible repeat (first | apply Kd.R_alloc | apply Kd.R_drewN | apply Kd.R_drew)); exact HO_255000.out⟩, ⟨by (with_reducible repeat (first | apply Kd.R_alloc | apply Kd.R_drewN | apply Kd.R_drew)); exact HO_255001.out⟩, ⟨by (with_reducible repeat (first | apply Kd.R_alloc | apply Kd.R_drewN | apply Kd.R_drew)); exact HO_255002.out⟩, ⟨by (with_reducible repeat (first | apply Kd.R_alloc | apply Kd.R_drewN | apply Kd.R_drew)); exact HO_267000.out⟩, ⟨by (with_reducible repeat (first | apply Kd.R_alloc | apply Kd.R_drewN | apply Kd.R_drew)); exact HO_267001.out⟩, ⟨by (with_reducible repeat (first | apply Kd.R_alloc | apply Kd.R_drewN | apply Kd.R_drew)); exact HO_267002.out⟩, ⟨by (with_reducible repeat (first | apply Kd.R_alloc | apply Kd.R_drewN | apply Kd.R_drew)); exact HO_279000.out⟩, ⟨by (with_reducible repeat (first | apply Kd.R_alloc | apply Kd.R_drewN | apply Kd.R_drew)); exact HO_279001.out⟩, ⟨by (with_reducible repeat (first | apply Kd.R_alloc | apply Kd.R_drewN | apply Kd.R_drew)); exact HO_279002.out⟩, ⟨by (with_reducible repeat (first | refine blk_drewN ?_ _ | refine blk_drew ?_ | refine blk_alloc ?_ _)); exact BK230.out⟩, ⟨by (with_reducible repeat (first | refine blk_drewN ?_ _ | refine blk_drew ?_ | refine blk_alloc ?_ _)); exact BK254.out⟩, ⟨by (with_reducible repeat (first | refine blk_drewN ?_ _ | refine blk_drew ?_ | refine blk_alloc ?_ _)); exact BK266.out⟩, ⟨by (with_reducible repeat (first | refine blk_drewN ?_ _ | refine blk_drew ?_ | refine blk_alloc ?_ _)); exact BK278.out⟩, ⟨by repeat (first | (with_reducible first | exact HB.out | apply below_alloc | apply pw_below_drewN | apply below_drew1 | refine below_set ?_ GE230.out | refine below_set ?_ GE254.out | refine below_set ?_ GE266.out | refine below_set ?_ GE278.out) | exact HB.out)⟩⟩
       case rest =>
        clear HC59
        try clear c1
        try clear c2
        try clear p2
        try clear c3
        try clear c4
        try clear c5
        try clear c6
        try clear c7
        try clear c8
        try clear c8b0
        try clear c10
        try clear c23
        try clear c31
        try clear c32
        try clear c39
        try clear c40
        try clear c41
        try clear c43
        try clear c47
        try clear c51
        try clear c52
        try clear c53
        try clear c54
        try clear c57
        try clear c60
        try clear c61
        try clear c62
        try clear c65
        try clear c65b0
        try clear c67
        try clear c68
        try clear c69
        try clear c71
        try clear c72
        try clear hcz15_0
        try clear hcz15_1
        try clear hcz15_2
        try clear hcz15_3
        try clear hcz15_4
        try clear hcz24_0
        try clear hcz24_1
        try clear hcz24_2
        try clear hcz24_3
        try clear hcz24_4
        try clear hcz27_0
        try clear hcz27_1
        try clear hcz27_2
        try clear hcz27_3
        try clear hcz27_4
        try clear hcz33_0
        try clear hcz33_1
        try clear hcz33_2
        try clear hcz33_3
        try clear hcz33_4
        try clear hcz42_0
        try clear hcz42_1
        try clear hcz42_2
        try clear hcz42_3
        try clear hcz42_4
        try clear hcz45_0
        try clear hcz45_1
        try clear hcz45_2
        try clear hcz45_3
        try clear hcz45_4
        try clear hcz63_0
        try clear hcz63_1
        try clear hcz63_2
        try clear hcz63_3
        try clear hcz63_4
        try clear hcz6_0
        try clear hcz6_1
        try clear hcz6_2
        try clear hcz6_3
        try clear hcz6_4
        try clear hcz70_0
        try clear hcz70_1
        try clear hcz70_2
        try clear hcz70_3
        try clear hcz70_4
        try clear hcz73_0
        try clear hcz73_1
        try clear hcz73_2
        try clear hcz73_3
        try clear hcz73_4
        try clear hfz15_0
        try clear hfz15_1
        try clear hfz15_2
        try clear hfz15_3
        try clear hfz15_4
        try clear hfz24_0
        try clear hfz24_1
        try clear hfz24_2
        try clear hfz24_3
        try clear hfz24_4
        try clear hfz27_0
        try clear hfz27_1
        try clear hfz27_2
        try clear hfz27_3
        try clear hfz27_4
        try clear hfz33_0
        try clear hfz33_1
        try clear hfz33_2
        try clear hfz33_3
        try clear hfz33_4
        try clear hfz42_0
        try clear hfz42_1
        try clear hfz42_2
        try clear hfz42_3
        try clear hfz42_4
        try clear hfz45_0
        try clear hfz45_1
        try clear hfz45_2
        try clear hfz45_3
        try clear hfz45_4
        try clear hfz63_0
        try clear hfz63_1
        try clear hfz63_2
        try clear hfz63_3
        try clear hfz63_4
        try clear hfz6_0
        try clear hfz6_1
        try clear hfz6_2
        try clear hfz6_3
        try clear hfz6_4
        try clear hfz70_0
        try clear hfz70_1
        try clear hfz70_2
        try clear hfz70_3
        try clear hfz70_4
        try clear hfz73_0
        try clear hfz73_1
        try clear hfz73_2
        try clear hfz73_3
        try clear hfz73_4
        try clear p2
        obtain ⟨kq, x46_58, rfl, HA, HJ58, HO_255000, HO_255001, HO_255002, HO_267000, HO_267001, HO_267002, HO_279000, HO_279001, HO_279002, BK230, BK254, BK266, BK278, HB⟩ := hcut
        have hl267000_58 := (Kd.R_reads' HO_267000.out).1
        rw [hl267000_58] at HO_267000
        (try simp only [hl267000_58])
        (try simp only [hl267000_58] at BK230)
        (try simp only [hl267000_58] at BK254)
        (try simp only [hl267000_58] at BK266)
        (try simp only [hl267000_58] at BK278)
        (try simp only [hl267000_58] at HO_255000)
        (try simp only [hl267000_58] at HO_255001)
        (try simp only [hl267000_58] at HO_255002)
        (try simp only [hl267000_58] at HO_267001)
        (try simp only [hl267000_58] at HO_267002)
        (try simp only [hl267000_58] at HO_279000)
        (try simp only [hl267000_58] at HO_279001)
        (try simp only [hl267000_58] at HO_279002)
        have hl267001_58 := (Kd.R_reads' HO_267001.out).1
        rw [hl267001_58] at HO_267001
        (try simp only [hl267001_58])
        (try simp only [hl267001_58] at BK230)
        (try simp only [hl267001_58] at BK254)
        (try simp only [hl267001_58] at BK266)
        (try simp only [hl267001_58] at BK278)
        (try simp only [hl267001_58] at HO_255000)
        (try simp only [hl267001_58] at HO_255001)
        (try simp only [hl267001_58] at HO_255002)
        (try simp only [hl267001_58] at HO_267000)
        (try simp only [hl267001_58] at HO_267002)
        (try simp only [hl267001_58] at HO_279000)
        (try simp only [hl267001_58] at HO_279001)
        (try simp only [hl267001_58] at HO_279002)
        have hl267002_58 := (Kd.R_reads' HO_267002.out).1
        rw [hl267002_58] at HO_267002
        (try simp only [hl267002_58])
        (try simp only [hl267002_58] at BK230)
        (try simp only [hl267002_58] at BK254)
        (try simp only [hl267002_58] at BK266)
        (try simp only [hl267002_58] at BK278)
        (try simp only [hl267002_58] at HO_255000)
        (try simp only [hl267002_58] at HO_255001)
        (try simp only [hl267002_58] at HO_255002)
        (try simp only [hl267002_58] at HO_267000)
        (try simp only [hl267002_58] at HO_267001)
        (try simp only [hl267002_58] at HO_279000)
        (try simp only [hl267002_58] at HO_279001)
        (try simp only [hl267002_58] at HO_279002)
        cases kq with
        | zero => exact absurd HA.out (by simp [laws_FnExactTold.j3])
        | succ kj58 =>
         have H := HA.out
         clear HA
         simp only [laws_FnExactTold.j3] at H
         have HC75 := Aside0.mk H
         clear H
         go_upto_if 46 with (fail)
         go_cut [] (fun wc => ∃ (kq : Nat), Aside0 (laws_FnExactTold.j4 kq a1 l0_0 l0_1 l0_2 a0_3 a0_4 t243 t246 t249 t252 t253 t267 t270 t273 t276 t277 = some r) ∧ Aside0 (kq ≤ kj58) ∧ Aside0 (Kd.R k123 123 wc w.heap.size (fun k_ => some k_ ≠ ((.slice Ao30 t293.length co30) : Value).ownBlock ∧ some k_ ≠ ((.slice Ao38 t267.length co38) : Value).ownBlock) (.slice Ao22 t243.length co22) t243) ∧ Aside0 (Kd.R (Kd.int .i64) 3 wc w.heap.size (fun k_ => some k_ ≠ ((.slice Ao26 t249.length co26) : Value).ownBlock ∧ some k_ ≠ ((.slice Ao34 t294.length co34) : Value).ownBlock ∧ some k_ ≠ ((.slice Ao35 t295.length co35) : Value).ownBlock ∧ some k_ ≠ ((.slice Ao43 t270.length co43) : Value).ownBlock ∧ some k_ ≠ ((.slice Ao44 t273.length co44) : Value).ownBlock) (.slice Ao25 t246.length co25) t246) ∧ Aside0 (Kd.R (Kd.int .i64) 3 wc w.heap.size (fun k_ => some k_ ≠ ((.slice Ao25 t246.length co25) : Value).ownBlock ∧ some k_ ≠ ((.slice Ao34 t294.length co34) : Value).ownBlock ∧ some k_ ≠ ((.slice Ao35 t295.length co35) : Value).ownBlock ∧ some k_ ≠ ((.slice Ao43 t270.length co43) : Value).ownBlock ∧ some k_ ≠ ((.slice Ao44 t273.length co44) : Value).ownBlock) (.slice Ao26 t249.length co26) t249) ∧ Aside0 (Kd.R k123 123 wc w.heap.size (fun k_ => some k_ ≠ ((.slice Ao22 t243.length co22) : Value).ownBlock ∧ some k_ ≠ ((.slice Ao38 t267.length co38) : Value).ownBlock) (.slice Ao30 t293.length co30) t293) ∧ Aside0 (Kd.R (Kd.int .i64) 3 wc w.heap.size (fun k_ => some k_ ≠ ((.slice Ao25 t246.length co25) : Value).ownBlock ∧ some k_ ≠ ((.slice Ao26 t249.length co26) : Value).ownBlock ∧ some k_ ≠ ((.slice Ao35 t295.length co35) : Value).ownBlock ∧ some k_ ≠ ((.slice Ao43 t270.length co43) : Value).ownBlock ∧ some k_ ≠ ((.slice Ao44 t273.length co44) : Value).ownBlock) (.slice Ao34 t294.length co34) t294) ∧ Aside0 (Kd.R (Kd.int .i64) 3 wc w.heap.size (fun k_ => some k_ ≠ ((.slice Ao25 t246.length co25) : Value).ownBlock ∧ some k_ ≠ ((.slice Ao26 t249.length co26) : Value).ownBlock ∧ some k_ ≠ ((.slice Ao34 t294.length co34) : Value).ownBlock ∧ some k_ ≠ ((.slice Ao43 t270.length co43) : Value).ownBlock ∧ some k_ ≠ ((.slice Ao44 t273.length co44) : Value).ownBlock) (.slice Ao35 t295.length co35) t295) ∧ Aside0 (Kd.R k123 123 wc w.heap.size (fun k_ => some k_ ≠ ((.slice Ao22 t243.length co22) : Value).ownBlock ∧ some k_ ≠ ((.slice Ao30 t293.length co30) : Value).ownBlock) (.slice Ao38 t267.length co38) t267) ∧ Aside0 (Kd.R (Kd.int .i64) 3 wc w.heap.size (fun k_ => some k_ ≠ ((.slice Ao25 t246.length co25) : Value).ownBlock ∧ some k_ ≠ ((.slice Ao26 t249.length co26) : Value).ownBlock ∧ some k_ ≠ ((.slice Ao34 t294.length co34) : Value).ownBlock ∧ some k_ ≠ ((.slice Ao35 t295.length co35) : Value).ownBlock ∧ some k_ ≠ ((.slice Ao44 t273.length co44) : Value).ownBlock) (.slice Ao43 t270.length co43) t270) ∧ Aside0 (Kd.R (Kd.int .i64) 3 wc w.heap.size (fun k_ => some k_ ≠ ((.slice Ao25 t246.length co25) : Value).ownBlock ∧ some k_ ≠ ((.slice Ao26 t249.length co26) : Value).ownBlock ∧ some k_ ≠ ((.slice Ao34 t294.length co34) : Value).ownBlock ∧ some k_ ≠ ((.slice Ao35 t295.length co35) : Value).ownBlock ∧ some k_ ≠ ((.slice Ao43 t270.length co43) : Value).ownBlock) (.slice Ao44 t273.length co44) t273) ∧ Aside0 (wc.heap[gb230]? = some (.cells #[(.slice A0_0 l0_0.length c0_0), (.slice A0_1 l0_1.length c0_1), (.slice A0_2 l0_2.length c0_2), .int .i64 a0_3, .int .i64 a0_4] 77 (0, 0))) ∧ Aside0 (wc.heap[gb254]? = some (.cells #[(.slice Ao22 t243.length co22), (.slice Ao25 t246.length co25), (.slice Ao26 t249.length co26), .int .i64 t252, .int .i64 t253] 57 (0, 0))) ∧ Aside0 (wc.heap[gb266]? = some (.cells #[(.slice Ao30 t293.length co30), (.slice Ao34 t294.length co34), (.slice Ao35 t295.length co35), .int .i64 t264, .int .i64 t265] 57 (0, 0))) ∧ Aside0 (wc.heap[gb278]? = some (.cells #[(.slice Ao38 t267.length co38), (.slice Ao43 t270.length co43), (.slice Ao44 t273.length co44), .int .i64 t276, .int .i64 t277] 57 (0, 0))) ∧ Aside0 (Below w.heap.size w wc))
         case first =>
          have H := HC75.out
          clear HC75
          by_cases c76 : x46_58 = true
          ·
           subst c76
           have H1 : (some false) = some r := by rw [if_pos rfl] at H; exact H
           clear H
           have H := H1
           clear H1
           obtain rfl := Option.some.inj H
           go_wp2
           go_ret
           exact ⟨by first | rfl | (simp [errW_none, errW_some] <;> rfl) | (simp [*, errW_none, errW_some] <;> rfl), by repeat (first | (with_reducible first | exact HB.out | apply below_alloc | apply pw_below_drewN | apply below_drew1 | refine below_set ?_ GE230.out | refine below_set ?_ GE254.out | refine below_set ?_ GE266.out | refine below_set ?_ GE278.out) | exact HB.out)⟩
          ·
           replace c76 := Bool.eq_false_iff.mpr c76
           subst c76
           have H1 : (laws_FnExactTold.j4 kj58 a1 l0_0 l0_1 l0_2 a0_3 a0_4 t243 t246 t249 t252 t253 t267 t270 t273 t276 t277) = some r := by rw [if_neg (show ¬ (false = true) by decide)] at H; exact H
           clear H
           have H := H1
           clear H1
           have H' := Aside0.mk H
           clear H
           go_wp2
           go_meet
           case rel => exact ⟨_, H', ⟨by have := HJ3.out; have := HJ13.out; have := HJ49.out; have := HJ58.out; first | omega | exact Nat.le_refl _⟩, ⟨by (try simp only [hl267000_58]); (try simp only [hl267001_58]); (try simp only [hl267002_58]); (with_reducible repeat (first | apply Kd.R_alloc | apply Kd.R_drewN | apply Kd.R_drew)); exact HO_255000.out⟩, ⟨by (try simp only [hl267000_58]); (try simp only [hl267001_58]); (try simp only [hl267002_58]); (with_reducible repeat (first | apply Kd.R_alloc | apply Kd.R_drewN | apply Kd.R_drew)); exact HO_255001.out⟩, ⟨by (try simp only [hl267000_58]); (try simp only [hl267001_58]); (try simp only [hl267002_58]); (with_reducible repeat (first | apply Kd.R_alloc | apply Kd.R_drewN | apply Kd.R_drew)); exact HO_255002.out⟩, ⟨by (try simp only [hl267000_58]); (try simp only [hl267001_58]); (try simp only [hl267002_58]); (with_reducible repeat (first | apply Kd.R_alloc | apply Kd.R_drewN | apply Kd.R_drew)); exact HO_267000.out⟩, ⟨by (try simp only [hl267000_58]); (try simp only [hl267001_58]); (try simp only [hl267002_58]); (with_reducible repeat (first | apply Kd.R_alloc | apply Kd.R_drewN | apply Kd.R_drew)); exact HO_267001.out⟩, ⟨by (try simp only [hl267000_58]); (try simp only [hl267001_58]); (try simp only [hl267002_58]); (with_reducible repeat (first | apply Kd.R_alloc | apply Kd.R_drewN | apply Kd.R_drew)); exact HO_267002.out⟩, ⟨by (try simp only [hl267000_58]); (try simp only [hl267001_58]); (try simp only [hl267002_58]); (with_reducible repeat (first | apply Kd.R_alloc | apply Kd.R_drewN | apply Kd.R_drew)); exact HO_279000.out⟩, ⟨by (try simp only [hl267000_58]); (try simp only [hl267001_58]); (try simp only [hl267002_58]); (with_reducible repeat (first | apply Kd.R_alloc | apply Kd.R_drewN | apply Kd.R_drew)); exact HO_279001.out⟩, ⟨by (try simp only [hl267000_58]); (try simp only [hl267001_58]); (try simp only [hl267002_58]); (with_reducible repeat (first | apply Kd.R_alloc | apply Kd.R_drewN | apply Kd.R_drew)); exact HO_279002.out⟩, ⟨by (try simp only [hl267000_58]); (try simp only [hl267001_58]); (try simp only [hl267002_58]); (with_reducible repeat (first | refine blk_drewN ?_ _ | refine blk_drew ?_ | refine blk_alloc ?_ _)); exact BK230.out⟩, ⟨by (try simp only [hl267000_58]); (try simp only [hl267001_58]); (try simp only [hl267002_58]); (with_reducible repeat (first | refine blk_drewN ?_ _ | refine blk_drew ?_ | refine blk_alloc ?_ _)); exact BK254.out⟩, ⟨by (try simp only [hl267000_58]); (try simp only [hl267001_58]); (try simp only [hl267002_58]); (with_reducible repeat (first | refine blk_drewN ?_ _ | refine blk_drew ?_ | refine blk_alloc ?_ _)); exact BK266.out⟩, ⟨by (try simp only [hl267000_58]); (try simp only [hl267001_58]); (try simp only [hl267002_58]); (with_reducible repeat (first | refine blk_drewN ?_ _ | refine blk_drew ?_ | refine blk_alloc ?_ _)); exact BK278.out⟩, ⟨by repeat (first | (with_reducible first | exact HB.out | apply below_alloc | apply pw_below_drewN | apply below_drew1 | refine below_set ?_ GE230.out | refine below_set ?_ GE254.out | refine below_set ?_ GE266.out | refine below_set ?_ GE278.out) | exact HB.out)⟩⟩
         case rest =>
          clear HC75
          try clear c1
          try clear c2
          try clear p2
          try clear c3
          try clear c4
          try clear c5
          try clear c6
          try clear c7
          try clear c8
          try clear c8b0
          try clear c10
          try clear c23
          try clear c31
          try clear c32
          try clear c39
          try clear c40
          try clear c41
          try clear c43
          try clear c47
          try clear c51
          try clear c52
          try clear c53
          try clear c54
          try clear c57
          try clear c60
          try clear c61
          try clear c62
          try clear c65
          try clear c65b0
          try clear c67
          try clear c68
          try clear c69
          try clear c71
          try clear c72
          try clear c76
          try clear hcz15_0
          try clear hcz15_1
          try clear hcz15_2
          try clear hcz15_3
          try clear hcz15_4
          try clear hcz24_0
          try clear hcz24_1
          try clear hcz24_2
          try clear hcz24_3
          try clear hcz24_4
          try clear hcz27_0
          try clear hcz27_1
          try clear hcz27_2
          try clear hcz27_3
          try clear hcz27_4
          try clear hcz33_0
          try clear hcz33_1
          try clear hcz33_2
          try clear hcz33_3
          try clear hcz33_4
          try clear hcz42_0
          try clear hcz42_1
          try clear hcz42_2
          try clear hcz42_3
          try clear hcz42_4
          try clear hcz45_0
          try clear hcz45_1
          try clear hcz45_2
          try clear hcz45_3
          try clear hcz45_4
          try clear hcz63_0
          try clear hcz63_1
          try clear hcz63_2
          try clear hcz63_3
          try clear hcz63_4
          try clear hcz6_0
          try clear hcz6_1
          try clear hcz6_2
          try clear hcz6_3
          try clear hcz6_4
          try clear hcz70_0
          try clear hcz70_1
          try clear hcz70_2
          try clear hcz70_3
          try clear hcz70_4
          try clear hcz73_0
          try clear hcz73_1
          try clear hcz73_2
          try clear hcz73_3
          try clear hcz73_4
          try clear hfz15_0
          try clear hfz15_1
          try clear hfz15_2
          try clear hfz15_3
          try clear hfz15_4
          try clear hfz24_0
          try clear hfz24_1
          try clear hfz24_2
          try clear hfz24_3
          try clear hfz24_4
          try clear hfz27_0
          try clear hfz27_1
          try clear hfz27_2
          try clear hfz27_3
          try clear hfz27_4
          try clear hfz33_0
          try clear hfz33_1
          try clear hfz33_2
          try clear hfz33_3
          try clear hfz33_4
          try clear hfz42_0
          try clear hfz42_1
          try clear hfz42_2
          try clear hfz42_3
          try clear hfz42_4
          try clear hfz45_0
          try clear hfz45_1
          try clear hfz45_2
          try clear hfz45_3
          try clear hfz45_4
          try clear hfz63_0
          try clear hfz63_1
          try clear hfz63_2
          try clear hfz63_3
          try clear hfz63_4
          try clear hfz6_0
          try clear hfz6_1
          try clear hfz6_2
          try clear hfz6_3
          try clear hfz6_4
          try clear hfz70_0
          try clear hfz70_1
          try clear hfz70_2
          try clear hfz70_3
          try clear hfz70_4
          try clear hfz73_0
          try clear hfz73_1
          try clear hfz73_2
          try clear hfz73_3
          try clear hfz73_4
          try clear p2
          obtain ⟨kq, HA, HJ74, HO_255000, HO_255001, HO_255002, HO_267000, HO_267001, HO_267002, HO_279000, HO_279001, HO_279002, BK230, BK254, BK266, BK278, HB⟩ := hcut
          cases kq with
          | zero => exact absurd HA.out (by simp [laws_FnExactTold.j4])
          | succ kj74 =>
           have H := HA.out
           clear HA
           simp only [laws_FnExactTold.j4] at H
           replace H := Option.bind_eq_some_iff.mp H
           obtain ⟨⟨t297, t298, t299, t300⟩, A770, H⟩ := H
           replace H : ((laws_heldMemory.f kj74 t298 t299 t300 t276 t277 1).bind fun t301 => (if t301 < 0 then (some false) else (laws_FnExactTold.j5 kj74 a1 t297 t301 l0_0 l0_1 l0_2 a0_3 a0_4 t243 t246 t249 t252 t253 t298 t299 t300 t276 t277))) = some r := H
           have A77 := Aside0.mk A770
           clear A770
           replace H := Option.bind_eq_some_iff.mp H
           obtain ⟨t301, A780, H⟩ := H
           replace H : (if t301 < 0 then (some false) else (laws_FnExactTold.j5 kj74 a1 t297 t301 l0_0 l0_1 l0_2 a0_3 a0_4 t243 t246 t249 t252 t253 t298 t299 t300 t276 t277)) = some r := H
           have A78 := Aside0.mk A780
           clear A780
           have HC79 := Aside0.mk H
           clear H
           have hnb80 := NB278_230.out
           have hnc80 := NB230_278.out
           have hnb81 := NB278_254.out
           have hnc81 := NB254_278.out
           have hnb82 := NB278_266.out
           have hnc82 := NB266_278.out
           have hcz83_0 : wc.cell? ⟨gb278, 0, none⟩ = some (.slice Ao38 t267.length co38) := (blk_cell BK278.out 0).trans rfl
           have hcz83_1 : wc.cell? ⟨gb278, 1, none⟩ = some (.slice Ao43 t270.length co43) := (blk_cell BK278.out 1).trans rfl
           have hcz83_2 : wc.cell? ⟨gb278, 2, none⟩ = some (.slice Ao44 t273.length co44) := (blk_cell BK278.out 2).trans rfl
           have hcz83_3 : wc.cell? ⟨gb278, 3, none⟩ = some (.int .i64 t276) := (blk_cell BK278.out 3).trans rfl
           have hcz83_4 : wc.cell? ⟨gb278, 4, none⟩ = some (.int .i64 t277) := (blk_cell BK278.out 4).trans rfl
           have hfz83_0 := blk_frozen BK278.out 0
           have hfz83_1 := blk_frozen BK278.out 1
           have hfz83_2 := blk_frozen BK278.out 2
           have hfz83_3 := blk_frozen BK278.out 3
           have hfz83_4 := blk_frozen BK278.out 4
           go_upto_if 54 with (first | ((with_reducible refine gate_callee (f := 43) rfl ?_); refine goesL_ (some 49) rfl rfl Try.func43 (by kernel_rfl) rfl #[.agg #[.slice Ao38 t267.length co38, .slice Ao43 t270.length co43, .slice Ao44 t273.length co44, .int .i64 t276, .int .i64 t277], .int .i64 1] rfl (by (try simp only [List.map_toArray, List.map_cons, List.map_nil]); first | done | rfl | (simp only [List.length_drop, List.length_take]; rfl)) ?_; (with_reducible refine (laws_markMemory.calls kj74 (fun k_ => some k_ = (.slice Ao38 t267.length co38 : Value).ownBlock) (.slice Ao38 t267.length co38) t267 (fun k_ => some k_ = (.slice Ao43 t270.length co43 : Value).ownBlock) (.slice Ao43 t270.length co43) t270 (fun k_ => some k_ = (.slice Ao44 t273.length co44 : Value).ownBlock) (.slice Ao44 t273.length co44) t273 t276 t277 1 t297 t298 t299 t300 w _ ?side1 ?side2 ?side3 ?side4 ?side5 ?side6 A77.out).mono ?_); (case side1 => repeat (first | (with_reducible first | exact HB.out | apply below_alloc | apply pw_below_drewN | apply below_drew1 | refine below_set ?_ GE230.out | refine below_set ?_ GE254.out | refine below_set ?_ GE266.out | refine below_set ?_ GE278.out) | exact HB.out)); (case side2 => exact Kd.R_tight rfl HO_279000.out); (case side3 => exact Kd.R_tight rfl HO_279001.out); (case side4 => exact fun k_ e_ => (HO_279001.out.1 k_ e_.symm).2.2.2.2); (case side5 => exact Kd.R_tight rfl HO_279002.out); (case side6 => exact fun k_ e_ => (HO_279002.out.1 k_ e_.symm).2.2.2.2); rintro e w84 ⟨rfl, hy0, hy1, hy2, hb, hkp⟩; refine ⟨_, rfl, ?_⟩; have n0_ := Aside0.mk (Kd.R_mono (ok' := fun k_ => some k_ ≠ (.slice Ao30 t293.length co30 : Value).ownBlock ∧ some k_ ≠ (.slice Ao38 t267.length co38 : Value).ownBlock) (Kd.R_keptB ((Kd.R_apart' (Kd.R_apart' HO_255000.out (Kd.R_typed HO_279001.out) (by decide)) (Kd.R_typed HO_279002.out) (by decide))) hkp (fun k_ hk_ hs_ => Or.elim hs_ (fun e_ => (hk_.1.1.2) e_) (fun e_ => Or.elim e_ (fun e_ => (hk_.1.2) e_) (fun e_ => (hk_.2) e_)))) (fun k_ hk_ => ⟨hk_.1.1.1.1, hk_.1.1.1.2⟩)); have n1_ := Aside0.mk (Kd.R_mono (ok' := fun k_ => some k_ ≠ (.slice Ao26 t249.length co26 : Value).ownBlock ∧ some k_ ≠ (.slice Ao34 t294.length co34 : Value).ownBlock ∧ some k_ ≠ (.slice Ao35 t295.length co35 : Value).ownBlock ∧ some k_ ≠ (.slice Ao43 t270.length co43 : Value).ownBlock ∧ some k_ ≠ (.slice Ao44 t273.length co44 : Value).ownBlock) (Kd.R_keptB ((Kd.R_apart' HO_255001.out (Kd.R_typed HO_279000.out) (by decide))) hkp (fun k_ hk_ hs_ => Or.elim hs_ (fun e_ => (hk_.2) e_) (fun e_ => Or.elim e_ (fun e_ => (hk_.1.2.2.2.1) e_) (fun e_ => (hk_.1.2.2.2.2) e_)))) (fun k_ hk_ => ⟨hk_.1.1.1, hk_.1.1.2.1, hk_.1.1.2.2.1, hk_.1.1.2.2.2.1, hk_.1.1.2.2.2.2⟩)); have n2_ := Aside0.mk (Kd.R_mono (ok' := fun k_ => some k_ ≠ (.slice Ao25 t246.length co25 : Value).ownBlock ∧ some k_ ≠ (.slice Ao34 t294.length co34 : Value).ownBlock ∧ some k_ ≠ (.slice Ao35 t295.length co35 : Value).ownBlock ∧ some k_ ≠ (.slice Ao43 t270.length co43 : Value).ownBlock ∧ some k_ ≠ (.slice Ao44 t273.length co44 : Value).ownBlock) (Kd.R_keptB ((Kd.R_apart' HO_255002.out (Kd.R_typed HO_279000.out) (by decide))) hkp (fun k_ hk_ hs_ => Or.elim hs_ (fun e_ => (hk_.2) e_) (fun e_ => Or.elim e_ (fun e_ => (hk_.1.2.2.2.1) e_) (fun e_ => (hk_.1.2.2.2.2) e_)))) (fun k_ hk_ => ⟨hk_.1.1.1, hk_.1.1.2.1, hk_.1.1.2.2.1, hk_.1.1.2.2.2.1, hk_.1.1.2.2.2.2⟩)); have n3_ := Aside0.mk (Kd.R_mono (ok' := fun k_ => some k_ ≠ (.slice Ao22 t243.length co22 : Value).ownBlock ∧ some k_ ≠ (.slice Ao38 t267.length co38 : Value).ownBlock) (Kd.R_keptB ((Kd.R_apart' (Kd.R_apart' HO_267000.out (Kd.R_typed HO_279001.out) (by decide)) (Kd.R_typed HO_279002.out) (by decide))) hkp (fun k_ hk_ hs_ => Or.elim hs_ (fun e_ => (hk_.1.1.2) e_) (fun e_ => Or.elim e_ (fun e_ => (hk_.1.2) e_) (fun e_ => (hk_.2) e_)))) (fun k_ hk_ => ⟨hk_.1.1.1.1, hk_.1.1.1.2⟩)); have n4_ := Aside0.mk (Kd.R_mono (ok' := fun k_ => some k_ ≠ (.slice Ao25 t246.length co25 : Value).ownBlock ∧ some k_ ≠ (.slice Ao26 t249.length co26 : Value).ownBlock ∧ some k_ ≠ (.slice Ao35 t295.length co35 : Value).ownBlock ∧ some k_ ≠ (.slice Ao43 t270.length co43 : Value).ownBlock ∧ some k_ ≠ (.slice Ao44 t273.length co44 : Value).ownBlock) (Kd.R_keptB ((Kd.R_apart' HO_267001.out (Kd.R_typed HO_279000.out) (by decide))) hkp (fun k_ hk_ hs_ => Or.elim hs_ (fun e_ => (hk_.2) e_) (fun e_ => Or.elim e_ (fun e_ => (hk_.1.2.2.2.1) e_) (fun e_ => (hk_.1.2.2.2.2) e_)))) (fun k_ hk_ => ⟨hk_.1.1.1, hk_.1.1.2.1, hk_.1.1.2.2.1, hk_.1.1.2.2.2.1, hk_.1.1.2.2.2.2⟩)); have n5_ := Aside0.mk (Kd.R_mono (ok' := fun k_ => some k_ ≠ (.slice Ao25 t246.length co25 : Value).ownBlock ∧ some k_ ≠ (.slice Ao26 t249.length co26 : Value).ownBlock ∧ some k_ ≠ (.slice Ao34 t294.length co34 : Value).ownBlock ∧ some k_ ≠ (.slice Ao43 t270.length co43 : Value).ownBlock ∧ some k_ ≠ (.slice Ao44 t273.length co44 : Value).ownBlock) (Kd.R_keptB ((Kd.R_apart' HO_267002.out (Kd.R_typed HO_279000.out) (by decide))) hkp (fun k_ hk_ hs_ => Or.elim hs_ (fun e_ => (hk_.2) e_) (fun e_ => Or.elim e_ (fun e_ => (hk_.1.2.2.2.1) e_) (fun e_ => (hk_.1.2.2.2.2) e_)))) (fun k_ hk_ => ⟨hk_.1.1.1, hk_.1.1.2.1, hk_.1.1.2.2.1, hk_.1.1.2.2.2.1, hk_.1.1.2.2.2.2⟩)); have n6_ := Aside0.mk (Kd.R_reok rfl hy0 (fun k_ e_ => HO_279000.out.1 k_ e_)); have n7_ := Aside0.mk (Kd.R_reok rfl hy1 (fun k_ e_ => HO_279001.out.1 k_ e_)); have n8_ := Aside0.mk (Kd.R_reok rfl hy2 (fun k_ e_ => HO_279002.out.1 k_ e_)); have n9_ := Aside0.mk (blk_kept (by (with_reducible repeat (first | refine blk_drewN ?_ _ | refine blk_drew ?_ | refine blk_alloc ?_ _)); exact BK230.out) hkp (fun hs_ => Or.elim hs_ (fun e_ => (fun e_ => (Kd.R_ne HO_279000.out BK230.out (by decide)) e_) e_) (fun e_ => Or.elim e_ (fun e_ => (fun e_ => (Kd.R_ne HO_279001.out BK230.out (by decide)) e_) e_) (fun e_ => (fun e_ => (Kd.R_ne HO_279002.out BK230.out (by decide)) e_) e_)))); have n10_ := Aside0.mk (blk_kept (by (with_reducible repeat (first | refine blk_drewN ?_ _ | refine blk_drew ?_ | refine blk_alloc ?_ _)); exact BK254.out) hkp (fun hs_ => Or.elim hs_ (fun e_ => (fun e_ => (Kd.R_ne HO_279000.out BK254.out (by decide)) e_) e_) (fun e_ => Or.elim e_ (fun e_ => (fun e_ => (Kd.R_ne HO_279001.out BK254.out (by decide)) e_) e_) (fun e_ => (fun e_ => (Kd.R_ne HO_279002.out BK254.out (by decide)) e_) e_)))); have n11_ := Aside0.mk (blk_kept (by (with_reducible repeat (first | refine blk_drewN ?_ _ | refine blk_drew ?_ | refine blk_alloc ?_ _)); exact BK266.out) hkp (fun hs_ => Or.elim hs_ (fun e_ => (fun e_ => (Kd.R_ne HO_279000.out BK266.out (by decide)) e_) e_) (fun e_ => Or.elim e_ (fun e_ => (fun e_ => (Kd.R_ne HO_279001.out BK266.out (by decide)) e_) e_) (fun e_ => (fun e_ => (Kd.R_ne HO_279002.out BK266.out (by decide)) e_) e_)))); have n12_ := Aside0.mk (blk_kept (by (with_reducible repeat (first | refine blk_drewN ?_ _ | refine blk_drew ?_ | refine blk_alloc ?_ _)); exact BK278.out) hkp (fun hs_ => Or.elim hs_ (fun e_ => (fun e_ => (Kd.R_ne HO_279000.out BK278.out (by decide)) e_) e_) (fun e_ => Or.elim e_ (fun e_ => (fun e_ => (Kd.R_ne HO_279001.out BK278.out (by decide)) e_) e_) (fun e_ => (fun e_ => (Kd.R_ne HO_279002.out BK278.out (by decide)) e_) e_)))); have n13_ := Aside0.mk (hb); clear HO_255000; clear HO_255001; clear HO_255002; clear HO_267000; clear HO_267001; clear HO_267002; clear HO_279000; clear HO_279001; clear HO_279002; clear BK230; clear BK254; clear BK266; clear BK278; clear HB; have HO_255000 := n0_; have HO_255001 := n1_; have HO_255002 := n2_; have HO_267000 := n3_; have HO_267001 := n4_; have HO_267002 := n5_; have HO_279000 := n6_; have HO_279001 := n7_; have HO_279002 := n8_; have BK230 := n9_; have BK254 := n10_; have BK266 := n11_; have BK278 := n12_; have HB := n13_; clear n0_ n1_ n2_ n3_ n4_ n5_ n6_ n7_ n8_ n9_ n10_ n11_ n12_ n13_; (try clear hb); (try clear hkp); (try clear hy0); (try clear hy1); (try clear hy2); have hcz85_0 : w84.cell? ⟨gb278, 0, none⟩ = some (.slice Ao38 t267.length co38) := (blk_cell BK278.out 0).trans rfl; have hcz85_1 : w84.cell? ⟨gb278, 1, none⟩ = some (.slice Ao43 t270.length co43) := (blk_cell BK278.out 1).trans rfl; have hcz85_2 : w84.cell? ⟨gb278, 2, none⟩ = some (.slice Ao44 t273.length co44) := (blk_cell BK278.out 2).trans rfl; have hcz85_3 : w84.cell? ⟨gb278, 3, none⟩ = some (.int .i64 t276) := (blk_cell BK278.out 3).trans rfl; have hcz85_4 : w84.cell? ⟨gb278, 4, none⟩ = some (.int .i64 t277) := (blk_cell BK278.out 4).trans rfl; have hfz85_0 := blk_frozen BK278.out 0; have hfz85_1 := blk_frozen BK278.out 1; have hfz85_2 := blk_frozen BK278.out 2; have hfz85_3 := blk_frozen BK278.out 3; have hfz85_4 := blk_frozen BK278.out 4) | ((with_reducible refine gate_callee (f := 44) rfl ?_); refine goesL_ (some 52) rfl rfl Try.func44 (by kernel_rfl) rfl #[.agg #[.slice Ao38 t298.length co38, .slice Ao43 t299.length co43, .slice Ao44 t300.length co44, .int .i64 t276, .int .i64 t277], .int .i64 1] rfl (by (try simp only [List.map_toArray, List.map_cons, List.map_nil]); first | done | (rw [show t298.length = t267.length from (Kd.R_reads' HO_279000.out).1.symm, show t299.length = t270.length from (Kd.R_reads' HO_279001.out).1.symm, show t300.length = t273.length from (Kd.R_reads' HO_279002.out).1.symm] <;> rfl) | rfl | (simp only [List.length_drop, List.length_take]; rfl)) ?_; (with_reducible refine (laws_heldMemory.calls kj74 _ _ t298 _ _ t299 _ _ t300 t276 t277 1 t301 _ ?side1 ?side2 ?side3 ?side4 ?side5 ?side6 A78.out).mono ?_); (case side1 => repeat (first | exact (Kd.R_reads' HO_279000.out).2.2 | (with_reducible refine Kd.C_alloc ?_ _) | (with_reducible refine Kd.C_drewN ?_ _) | (with_reducible refine Kd.C_drew ?_))); (case side2 => rw [show t298.length = t267.length from (Kd.R_reads' HO_279000.out).1.symm]; exact (Kd.R_reads' HO_279000.out).2.1); (case side3 => repeat (first | exact (Kd.R_reads' HO_279001.out).2.2 | (with_reducible refine Kd.C_alloc ?_ _) | (with_reducible refine Kd.C_drewN ?_ _) | (with_reducible refine Kd.C_drew ?_))); (case side4 => rw [show t299.length = t270.length from (Kd.R_reads' HO_279001.out).1.symm]; exact (Kd.R_reads' HO_279001.out).2.1); (case side5 => repeat (first | exact (Kd.R_reads' HO_279002.out).2.2 | (with_reducible refine Kd.C_alloc ?_ _) | (with_reducible refine Kd.C_drewN ?_ _) | (with_reducible refine Kd.C_drew ?_))); (case side6 => rw [show t300.length = t273.length from (Kd.R_reads' HO_279002.out).1.symm]; exact (Kd.R_reads' HO_279002.out).2.1); rintro e w86 ⟨rfl, hb⟩; refine ⟨_, rfl, ?_⟩; have n0_ := Aside0.mk (Kd.R_below (by (with_reducible repeat (first | apply Kd.R_alloc | apply Kd.R_drewN | apply Kd.R_drew)); exact HO_255000.out) hb); have n1_ := Aside0.mk (Kd.R_below (by (with_reducible repeat (first | apply Kd.R_alloc | apply Kd.R_drewN | apply Kd.R_drew)); exact HO_255001.out) hb); have n2_ := Aside0.mk (Kd.R_below (by (with_reducible repeat (first | apply Kd.R_alloc | apply Kd.R_drewN | apply Kd.R_drew)); exact HO_255002.out) hb); have n3_ := Aside0.mk (Kd.R_below (by (with_reducible repeat (first | apply Kd.R_alloc | apply Kd.R_drewN | apply Kd.R_drew)); exact HO_267000.out) hb); have n4_ := Aside0.mk (Kd.R_below (by (with_reducible repeat (first | apply Kd.R_alloc | apply Kd.R_drewN | apply Kd.R_drew)); exact HO_267001.out) hb); have n5_ := Aside0.mk (Kd.R_below (by (with_reducible repeat (first | apply Kd.R_alloc | apply Kd.R_drewN | apply Kd.R_drew)); exact HO_267002.out) hb); have n6_ := Aside0.mk (Kd.R_below (by (with_reducible repeat (first | apply Kd.R_alloc | apply Kd.R_drewN | apply Kd.R_drew)); exact HO_279000.out) hb); have n7_ := Aside0.mk (Kd.R_below (by (with_reducible repeat (first | apply Kd.R_alloc | apply Kd.R_drewN | apply Kd.R_drew)); exact HO_279001.out) hb); have n8_ := Aside0.mk (Kd.R_below (by (with_reducible repeat (first | apply Kd.R_alloc | apply Kd.R_drewN | apply Kd.R_drew)); exact HO_279002.out) hb); have n9_ := Aside0.mk (blk_below (g := gb230) (o := .cells #[.slice A0_0 l0_0.length c0_0, .slice A0_1 l0_1.length c0_1, .slice A0_2 l0_2.length c0_2, .int .i64 a0_3, .int .i64 a0_4] 77 (0, 0)) (by (with_reducible repeat (first | refine blk_drewN ?_ _ | refine blk_drew ?_ | refine blk_alloc ?_ _)); exact BK230.out) hb); have n10_ := Aside0.mk (blk_below (g := gb254) (o := .cells #[.slice Ao22 t243.length co22, .slice Ao25 t246.length co25, .slice Ao26 t249.length co26, .int .i64 t252, .int .i64 t253] 57 (0, 0)) (by (with_reducible repeat (first | refine blk_drewN ?_ _ | refine blk_drew ?_ | refine blk_alloc ?_ _)); exact BK254.out) hb); have n11_ := Aside0.mk (blk_below (g := gb266) (o := .cells #[.slice Ao30 t293.length co30, .slice Ao34 t294.length co34, .slice Ao35 t295.length co35, .int .i64 t264, .int .i64 t265] 57 (0, 0)) (by (with_reducible repeat (first | refine blk_drewN ?_ _ | refine blk_drew ?_ | refine blk_alloc ?_ _)); exact BK266.out) hb); have n12_ := Aside0.mk (blk_below (g := gb278) (o := .cells #[.slice Ao38 t267.length co38, .slice Ao43 t270.length co43, .slice Ao44 t273.length co44, .int .i64 t276, .int .i64 t277] 57 (0, 0)) (by (with_reducible repeat (first | refine blk_drewN ?_ _ | refine blk_drew ?_ | refine blk_alloc ?_ _)); exact BK278.out) hb); have n13_ := Aside0.mk (below_step (by repeat (first | (with_reducible first | exact HB.out | apply below_alloc | apply pw_below_drewN | apply below_drew1 | refine below_set ?_ GE230.out | refine below_set ?_ GE254.out | refine below_set ?_ GE266.out | refine below_set ?_ GE278.out) | exact HB.out)) hb); clear HO_255000; clear HO_255001; clear HO_255002; clear HO_267000; clear HO_267001; clear HO_267002; clear HO_279000; clear HO_279001; clear HO_279002; clear BK230; clear BK254; clear BK266; clear BK278; clear HB; have HO_255000 := n0_; have HO_255001 := n1_; have HO_255002 := n2_; have HO_267000 := n3_; have HO_267001 := n4_; have HO_267002 := n5_; have HO_279000 := n6_; have HO_279001 := n7_; have HO_279002 := n8_; have BK230 := n9_; have BK254 := n10_; have BK266 := n11_; have BK278 := n12_; have HB := n13_; clear n0_ n1_ n2_ n3_ n4_ n5_ n6_ n7_ n8_ n9_ n10_ n11_ n12_ n13_; (try clear hb); (try clear hb2); (try clear hk); (try clear hi)))
           (try simp only [Act.put, List.setIfInBounds_toArray, List.set_cons_zero, List.set_cons_succ])
           go_cut [] (fun wc => ∃ (kq : Nat), Aside0 (laws_FnExactTold.j5 kq a1 t297 t301 l0_0 l0_1 l0_2 a0_3 a0_4 t243 t246 t249 t252 t253 t298 t299 t300 t276 t277 = some r) ∧ Aside0 (kq ≤ kj74) ∧ Aside0 (Kd.R k123 123 wc w.heap.size (fun k_ => some k_ ≠ ((.slice Ao30 t293.length co30) : Value).ownBlock ∧ some k_ ≠ ((.slice Ao38 t267.length co38) : Value).ownBlock) (.slice Ao22 t243.length co22) t243) ∧ Aside0 (Kd.R (Kd.int .i64) 3 wc w.heap.size (fun k_ => some k_ ≠ ((.slice Ao26 t249.length co26) : Value).ownBlock ∧ some k_ ≠ ((.slice Ao34 t294.length co34) : Value).ownBlock ∧ some k_ ≠ ((.slice Ao35 t295.length co35) : Value).ownBlock ∧ some k_ ≠ ((.slice Ao43 t270.length co43) : Value).ownBlock ∧ some k_ ≠ ((.slice Ao44 t273.length co44) : Value).ownBlock) (.slice Ao25 t246.length co25) t246) ∧ Aside0 (Kd.R (Kd.int .i64) 3 wc w.heap.size (fun k_ => some k_ ≠ ((.slice Ao25 t246.length co25) : Value).ownBlock ∧ some k_ ≠ ((.slice Ao34 t294.length co34) : Value).ownBlock ∧ some k_ ≠ ((.slice Ao35 t295.length co35) : Value).ownBlock ∧ some k_ ≠ ((.slice Ao43 t270.length co43) : Value).ownBlock ∧ some k_ ≠ ((.slice Ao44 t273.length co44) : Value).ownBlock) (.slice Ao26 t249.length co26) t249) ∧ Aside0 (Kd.R k123 123 wc w.heap.size (fun k_ => some k_ ≠ ((.slice Ao22 t243.length co22) : Value).ownBlock ∧ some k_ ≠ ((.slice Ao38 t267.length co38) : Value).ownBlock) (.slice Ao30 t293.length co30) t293) ∧ Aside0 (Kd.R (Kd.int .i64) 3 wc w.heap.size (fun k_ => some k_ ≠ ((.slice Ao25 t246.length co25) : Value).ownBlock ∧ some k_ ≠ ((.slice Ao26 t249.length co26) : Value).ownBlock ∧ some k_ ≠ ((.slice Ao35 t295.length co35) : Value).ownBlock ∧ some k_ ≠ ((.slice Ao43 t270.length co43) : Value).ownBlock ∧ some k_ ≠ ((.slice Ao44 t273.length co44) : Value).ownBlock) (.slice Ao34 t294.length co34) t294) ∧ Aside0 (Kd.R (Kd.int .i64) 3 wc w.heap.size (fun k_ => some k_ ≠ ((.slice Ao25 t246.length co25) : Value).ownBlock ∧ some k_ ≠ ((.slice Ao26 t249.length co26) : Value).ownBlock ∧ some k_ ≠ ((.slice Ao34 t294.length co34) : Value).ownBlock ∧ some k_ ≠ ((.slice Ao43 t270.length co43) : Value).ownBlock ∧ some k_ ≠ ((.slice Ao44 t273.length co44) : Value).ownBlock) (.slice Ao35 t295.length co35) t295) ∧ Aside0 (Kd.R k123 123 wc w.heap.size (fun k_ => some k_ ≠ ((.slice Ao22 t243.length co22) : Value).ownBlock ∧ some k_ ≠ ((.slice Ao30 t293.length co30) : Value).ownBlock) (.slice Ao38 t267.length co38) t298) ∧ Aside0 (Kd.R (Kd.int .i64) 3 wc w.heap.size (fun k_ => some k_ ≠ ((.slice Ao25 t246.length co25) : Value).ownBlock ∧ some k_ ≠ ((.slice Ao26 t249.length co26) : Value).ownBlock ∧ some k_ ≠ ((.slice Ao34 t294.length co34) : Value).ownBlock ∧ some k_ ≠ ((.slice Ao35 t295.length co35) : Value).ownBlock ∧ some k_ ≠ ((.slice Ao44 t273.length co44) : Value).ownBlock) (.slice Ao43 t270.length co43) t299) ∧ Aside0 (Kd.R (Kd.int .i64) 3 wc w.heap.size (fun k_ => some k_ ≠ ((.slice Ao25 t246.length co25) : Value).ownBlock ∧ some k_ ≠ ((.slice Ao26 t249.length co26) : Value).ownBlock ∧ some k_ ≠ ((.slice Ao34 t294.length co34) : Value).ownBlock ∧ some k_ ≠ ((.slice Ao35 t295.length co35) : Value).ownBlock ∧ some k_ ≠ ((.slice Ao43 t270.length co43) : Value).ownBlock) (.slice Ao44 t273.length co44) t300) ∧ Aside0 (wc.heap[gb230]? = some (.cells #[(.slice A0_0 l0_0.length c0_0), (.slice A0_1 l0_1.length c0_1), (.slice A0_2 l0_2.length c0_2), .int .i64 a0_3, .int .i64 a0_4] 77 (0, 0))) ∧ Aside0 (wc.heap[gb254]? = some (.cells #[(.slice Ao22 t243.length co22), (.slice Ao25 t246.length co25), (.slice Ao26 t249.length co26), .int .i64 t252, .int .i64 t253] 57 (0, 0))) ∧ Aside0 (wc.heap[gb266]? = some (.cells #[(.slice Ao30 t293.length co30), (.slice Ao34 t294.length co34), (.slice Ao35 t295.length co35), .int .i64 t264, .int .i64 t265] 57 (0, 0))) ∧ Aside0 (wc.heap[gb278]? = some (.cells #[(.slice Ao38 t267.length co38), (.slice Ao43 t270.length co43), (.slice Ao44 t273.length co44), .int .i64 t276, .int .i64 t277] 57 (0, 0))) ∧ Aside0 (Below w.heap.size w wc))
           case first =>
            have H := HC79.out
            clear HC79
            by_cases c87 : t301 < 0
            ·
             rw [if_pos c87] at H
             have c87b0 : decide (t301 < 0) = true := decide_eq_true c87
             clear c87
             (first | rw [c87b0] | (simp only [i64_w, i32_w]; rw [c87b0]) | skip)
             obtain rfl := Option.some.inj H
             go_wp2
             go_ret
             exact ⟨by first | rfl | (simp [errW_none, errW_some] <;> rfl) | (simp [*, errW_none, errW_some] <;> rfl), by repeat (first | (with_reducible first | exact HB.out | apply below_alloc | apply pw_below_drewN | apply below_drew1 | refine below_set ?_ GE230.out | refine below_set ?_ GE254.out | refine below_set ?_ GE266.out | refine below_set ?_ GE278.out) | exact HB.out)⟩
            ·
             rw [if_neg c87] at H
             have c87b0 : decide (t301 < 0) = false := decide_eq_false c87
             clear c87
             (first | rw [c87b0] | (simp only [i64_w, i32_w]; rw [c87b0]) | skip)
             have H' := Aside0.mk H
             clear H
             go_wp2
             go_meet
             case rel => exact ⟨_, H', ⟨by have := HJ3.out; have := HJ13.out; have := HJ49.out; have := HJ58.out; have := HJ74.out; first | omega | exact Nat.le_refl _⟩, ⟨by (try simp only [hl267000_58]); (try simp only [hl267001_58]); (try simp only [hl267002_58]); (with_reducible repeat (first | apply Kd.R_alloc | apply Kd.R_drewN | apply Kd.R_drew)); exact HO_255000.out⟩, ⟨by (try simp only [hl267000_58]); (try simp only [hl267001_58]); (try simp only [hl267002_58]); (with_reducible repeat (first | apply Kd.R_alloc | apply Kd.R_drewN | apply Kd.R_drew)); exact HO_255001.out⟩, ⟨by (try simp only [hl267000_58]); (try simp only [hl267001_58]); (try simp only [hl267002_58]); (with_reducible repeat (first | apply Kd.R_alloc | apply Kd.R_drewN | apply Kd.R_drew)); exact HO_255002.out⟩, ⟨by (try simp only [hl267000_58]); (try simp only [hl267001_58]); (try simp only [hl267002_58]); (with_reducible repeat (first | apply Kd.R_alloc | apply Kd.R_drewN | apply Kd.R_drew)); exact HO_267000.out⟩, ⟨by (try simp only [hl267000_58]); (try simp only [hl267001_58]); (try simp only [hl267002_58]); (with_reducible repeat (first | apply Kd.R_alloc | apply Kd.R_drewN | apply Kd.R_drew)); exact HO_267001.out⟩, ⟨by (try simp only [hl267000_58]); (try simp only [hl267001_58]); (try simp only [hl267002_58]); (with_reducible repeat (first | apply Kd.R_alloc | apply Kd.R_drewN | apply Kd.R_drew)); exact HO_267002.out⟩, ⟨by (try simp only [hl267000_58]); (try simp only [hl267001_58]); (try simp only [hl267002_58]); (with_reducible repeat (first | apply Kd.R_alloc | apply Kd.R_drewN | apply Kd.R_drew)); exact HO_279000.out⟩, ⟨by (try simp only [hl267000_58]); (try simp only [hl267001_58]); (try simp only [hl267002_58]); (with_reducible repeat (first | apply Kd.R_alloc | apply Kd.R_drewN | apply Kd.R_drew)); exact HO_279001.out⟩, ⟨by (try simp only [hl267000_58]); (try simp only [hl267001_58]); (try simp only [hl267002_58]); (with_reducible repeat (first | apply Kd.R_alloc | apply Kd.R_drewN | apply Kd.R_drew)); exact HO_279002.out⟩, ⟨by (try simp only [hl267000_58]); (try simp only [hl267001_58]); (try simp only [hl267002_58]); (with_reducible repeat (first | refine blk_drewN ?_ _ | refine blk_drew ?_ | refine blk_alloc ?_ _)); exact BK230.out⟩, ⟨by (try simp only [hl267000_58]); (try simp only [hl267001_58]); (try simp only [hl267002_58]); (with_reducible repeat (first | refine blk_drewN ?_ _ | refine blk_drew ?_ | refine blk_alloc ?_ _)); exact BK254.out⟩, ⟨by (try simp only [hl267000_58]); (try simp only [hl267001_58]); (try simp only [hl267002_58]); (with_reducible repeat (first | refine blk_drewN ?_ _ | refine blk_drew ?_ | refine blk_alloc ?_ _)); exact BK266.out⟩, ⟨by (try simp only [hl267000_58]); (try simp only [hl267001_58]); (try simp only [hl267002_58]); (with_reducible repeat (first | refine blk_drewN ?_ _ | refine blk_drew ?_ | refine blk_alloc ?_ _)); exact BK278.out⟩, ⟨by repeat (first | (with_reducible first | exact HB.out | apply below_alloc | apply pw_below_drewN | apply below_drew1 | refine below_set ?_ GE230.out | refine below_set ?_ GE254.out | refine below_set ?_ GE266.out | refine below_set ?_ GE278.out) | exact HB.out)⟩⟩
           case rest =>
            clear HC79
            try clear c1
            try clear c2
            try clear p2
            try clear c3
            try clear c4
            try clear c5
            try clear c6
            try clear c7
            try clear c8
            try clear c8b0
            try clear c10
            try clear c23
            try clear c31
            try clear c32
            try clear c39
            try clear c40
            try clear c41
            try clear c43
            try clear c44
            try clear c47
            try clear c51
            try clear c52
            try clear c53
            try clear c54
            try clear c57
            try clear c60
            try clear c61
            try clear c62
            try clear c65
            try clear c65b0
            try clear c67
            try clear c68
            try clear c69
            try clear c71
            try clear c72
            try clear c76
            try clear c80
            try clear c81
            try clear c82
            try clear c87
            try clear c87b0
            try clear hcz15_0
            try clear hcz15_1
            try clear hcz15_2
            try clear hcz15_3
            try clear hcz15_4
            try clear hcz24_0
            try clear hcz24_1
            try clear hcz24_2
            try clear hcz24_3
            try clear hcz24_4
            try clear hcz27_0
            try clear hcz27_1
            try clear hcz27_2
            try clear hcz27_3
            try clear hcz27_4
            try clear hcz33_0
            try clear hcz33_1
            try clear hcz33_2
            try clear hcz33_3
            try clear hcz33_4
            try clear hcz42_0
            try clear hcz42_1
            try clear hcz42_2
            try clear hcz42_3
            try clear hcz42_4
            try clear hcz45_0
            try clear hcz45_1
            try clear hcz45_2
            try clear hcz45_3
            try clear hcz45_4
            try clear hcz63_0
            try clear hcz63_1
            try clear hcz63_2
            try clear hcz63_3
            try clear hcz63_4
            try clear hcz6_0
            try clear hcz6_1
            try clear hcz6_2
            try clear hcz6_3
            try clear hcz6_4
            try clear hcz70_0
            try clear hcz70_1
            try clear hcz70_2
            try clear hcz70_3
            try clear hcz70_4
            try clear hcz73_0
            try clear hcz73_1
            try clear hcz73_2
            try clear hcz73_3
            try clear hcz73_4
            try clear hcz83_0
            try clear hcz83_1
            try clear hcz83_2
            try clear hcz83_3
            try clear hcz83_4
            try clear hcz85_0
            try clear hcz85_1
            try clear hcz85_2
            try clear hcz85_3
            try clear hcz85_4
            try clear hfz15_0
            try clear hfz15_1
            try clear hfz15_2
            try clear hfz15_3
            try clear hfz15_4
            try clear hfz24_0
            try clear hfz24_1
            try clear hfz24_2
            try clear hfz24_3
            try clear hfz24_4
            try clear hfz27_0
            try clear hfz27_1
            try clear hfz27_2
            try clear hfz27_3
            try clear hfz27_4
            try clear hfz33_0
            try clear hfz33_1
            try clear hfz33_2
            try clear hfz33_3
            try clear hfz33_4
            try clear hfz42_0
            try clear hfz42_1
            try clear hfz42_2
            try clear hfz42_3
            try clear hfz42_4
            try clear hfz45_0
            try clear hfz45_1
            try clear hfz45_2
            try clear hfz45_3
            try clear hfz45_4
            try clear hfz63_0
            try clear hfz63_1
            try clear hfz63_2
            try clear hfz63_3
            try clear hfz63_4
            try clear hfz6_0
            try clear hfz6_1
            try clear hfz6_2
            try clear hfz6_3
            try clear hfz6_4
            try clear hfz70_0
            try clear hfz70_1
            try clear hfz70_2
            try clear hfz70_3
            try clear hfz70_4
            try clear hfz73_0
            try clear hfz73_1
            try clear hfz73_2
            try clear hfz73_3
            try clear hfz73_4
            try clear hfz83_0
            try clear hfz83_1
            try clear hfz83_2
            try clear hfz83_3
            try clear hfz83_4
            try clear hfz85_0
            try clear hfz85_1
            try clear hfz85_2
            try clear hfz85_3
            try clear hfz85_4
            try clear p2
            obtain ⟨kq, HA, HJ78, HO_255000, HO_255001, HO_255002, HO_267000, HO_267001, HO_267002, HO_279000, HO_279001, HO_279002, BK230, BK254, BK266, BK278, HB⟩ := hcut
            have hl279000_78 := (Kd.R_reads' HO_279000.out).1
            rw [hl279000_78] at HO_279000
            (try simp only [hl279000_78])
            (try simp only [hl279000_78] at BK230)
            (try simp only [hl279000_78] at BK254)
            (try simp only [hl279000_78] at BK266)
            (try simp only [hl279000_78] at BK278)
            (try simp only [hl279000_78] at HO_255000)
            (try simp only [hl279000_78] at HO_255001)
            (try simp only [hl279000_78] at HO_255002)
            (try simp only [hl279000_78] at HO_267000)
            (try simp only [hl279000_78] at HO_267001)
            (try simp only [hl279000_78] at HO_267002)
            (try simp only [hl279000_78] at HO_279001)
            (try simp only [hl279000_78] at HO_279002)
            have hl279001_78 := (Kd.R_reads' HO_279001.out).1
            rw [hl279001_78] at HO_279001
            (try simp only [hl279001_78])
            (try simp only [hl279001_78] at BK230)
            (try simp only [hl279001_78] at BK254)
            (try simp only [hl279001_78] at BK266)
            (try simp only [hl279001_78] at BK278)
            (try simp only [hl279001_78] at HO_255000)
            (try simp only [hl279001_78] at HO_255001)
            (try simp only [hl279001_78] at HO_255002)
            (try simp only [hl279001_78] at HO_267000)
            (try simp only [hl279001_78] at HO_267001)
            (try simp only [hl279001_78] at HO_267002)
            (try simp only [hl279001_78] at HO_279000)
            (try simp only [hl279001_78] at HO_279002)
            have hl279002_78 := (Kd.R_reads' HO_279002.out).1
            rw [hl279002_78] at HO_279002
            (try simp only [hl279002_78])
            (try simp only [hl279002_78] at BK230)
            (try simp only [hl279002_78] at BK254)
            (try simp only [hl279002_78] at BK266)
            (try simp only [hl279002_78] at BK278)
            (try simp only [hl279002_78] at HO_255000)
            (try simp only [hl279002_78] at HO_255001)
            (try simp only [hl279002_78] at HO_255002)
            (try simp only [hl279002_78] at HO_267000)
            (try simp only [hl279002_78] at HO_267001)
            (try simp only [hl279002_78] at HO_267002)
            (try simp only [hl279002_78] at HO_279000)
            (try simp only [hl279002_78] at HO_279001)
            cases kq with
            | zero => exact absurd HA.out (by simp [laws_FnExactTold.j5])
            | succ kj78 =>
             have H := HA.out
             clear HA
             simp only [laws_FnExactTold.j5] at H
             have HC88 := Aside0.mk H
             clear H
             go_upto_if 57 with (fail)
             go_cut [] (fun wc => ∃ (kq : Nat), Aside0 (laws_FnExactTold.j6 kq a1 t297 l0_0 l0_1 l0_2 a0_3 a0_4 t243 t246 t249 t252 t253 t298 t299 t300 t276 t277 = some r) ∧ Aside0 (kq ≤ kj78) ∧ Aside0 (Kd.R k123 123 wc w.heap.size (fun k_ => some k_ ≠ ((.slice Ao30 t293.length co30) : Value).ownBlock ∧ some k_ ≠ ((.slice Ao38 t298.length co38) : Value).ownBlock) (.slice Ao22 t243.length co22) t243) ∧ Aside0 (Kd.R (Kd.int .i64) 3 wc w.heap.size (fun k_ => some k_ ≠ ((.slice Ao26 t249.length co26) : Value).ownBlock ∧ some k_ ≠ ((.slice Ao34 t294.length co34) : Value).ownBlock ∧ some k_ ≠ ((.slice Ao35 t295.length co35) : Value).ownBlock ∧ some k_ ≠ ((.slice Ao43 t299.length co43) : Value).ownBlock ∧ some k_ ≠ ((.slice Ao44 t300.length co44) : Value).ownBlock) (.slice Ao25 t246.length co25) t246) ∧ Aside0 (Kd.R (Kd.int .i64) 3 wc w.heap.size (fun k_ => some k_ ≠ ((.slice Ao25 t246.length co25) : Value).ownBlock ∧ some k_ ≠ ((.slice Ao34 t294.length co34) : Value).ownBlock ∧ some k_ ≠ ((.slice Ao35 t295.length co35) : Value).ownBlock ∧ some k_ ≠ ((.slice Ao43 t299.length co43) : Value).ownBlock ∧ some k_ ≠ ((.slice Ao44 t300.length co44) : Value).ownBlock) (.slice Ao26 t249.length co26) t249) ∧ Aside0 (Kd.R k123 123 wc w.heap.size (fun k_ => some k_ ≠ ((.slice Ao22 t243.length co22) : Value).ownBlock ∧ some k_ ≠ ((.slice Ao38 t298.length co38) : Value).ownBlock) (.slice Ao30 t293.length co30) t293) ∧ Aside0 (Kd.R (Kd.int .i64) 3 wc w.heap.size (fun k_ => some k_ ≠ ((.slice Ao25 t246.length co25) : Value).ownBlock ∧ some k_ ≠ ((.slice Ao26 t249.length co26) : Value).ownBlock ∧ some k_ ≠ ((.slice Ao35 t295.length co35) : Value).ownBlock ∧ some k_ ≠ ((.slice Ao43 t299.length co43) : Value).ownBlock ∧ some k_ ≠ ((.slice Ao44 t300.length co44) : Value).ownBlock) (.slice Ao34 t294.length co34) t294) ∧ Aside0 (Kd.R (Kd.int .i64) 3 wc w.heap.size (fun k_ => some k_ ≠ ((.slice Ao25 t246.length co25) : Value).ownBlock ∧ some k_ ≠ ((.slice Ao26 t249.length co26) : Value).ownBlock ∧ some k_ ≠ ((.slice Ao34 t294.length co34) : Value).ownBlock ∧ some k_ ≠ ((.slice Ao43 t299.length co43) : Value).ownBlock ∧ some k_ ≠ ((.slice Ao44 t300.length co44) : Value).ownBlock) (.slice Ao35 t295.length co35) t295) ∧ Aside0 (Kd.R k123 123 wc w.heap.size (fun k_ => some k_ ≠ ((.slice Ao22 t243.length co22) : Value).ownBlock ∧ some k_ ≠ ((.slice Ao30 t293.length co30) : Value).ownBlock) (.slice Ao38 t298.length co38) t298) ∧ Aside0 (Kd.R (Kd.int .i64) 3 wc w.heap.size (fun k_ => some k_ ≠ ((.slice Ao25 t246.length co25) : Value).ownBlock ∧ some k_ ≠ ((.slice Ao26 t249.length co26) : Value).ownBlock ∧ some k_ ≠ ((.slice Ao34 t294.length co34) : Value).ownBlock ∧ some k_ ≠ ((.slice Ao35 t295.length co35) : Value).ownBlock ∧ some k_ ≠ ((.slice Ao44 t300.length co44) : Value).ownBlock) (.slice Ao43 t299.length co43) t299) ∧ Aside0 (Kd.R (Kd.int .i64) 3 wc w.heap.size (fun k_ => some k_ ≠ ((.slice Ao25 t246.length co25) : Value).ownBlock ∧ some k_ ≠ ((.slice Ao26 t249.length co26) : Value).ownBlock ∧ some k_ ≠ ((.slice Ao34 t294.length co34) : Value).ownBlock ∧ some k_ ≠ ((.slice Ao35 t295.length co35) : Value).ownBlock ∧ some k_ ≠ ((.slice Ao43 t299.length co43) : Value).ownBlock) (.slice Ao44 t300.length co44) t300) ∧ Aside0 (wc.heap[gb230]? = some (.cells #[(.slice A0_0 l0_0.length c0_0), (.slice A0_1 l0_1.length c0_1), (.slice A0_2 l0_2.length c0_2), .int .i64 a0_3, .int .i64 a0_4] 77 (0, 0))) ∧ Aside0 (wc.heap[gb254]? = some (.cells #[(.slice Ao22 t243.length co22), (.slice Ao25 t246.length co25), (.slice Ao26 t249.length co26), .int .i64 t252, .int .i64 t253] 57 (0, 0))) ∧ Aside0 (wc.heap[gb266]? = some (.cells #[(.slice Ao30 t293.length co30), (.slice Ao34 t294.length co34), (.slice Ao35 t295.length co35), .int .i64 t264, .int .i64 t265] 57 (0, 0))) ∧ Aside0 (wc.heap[gb278]? = some (.cells #[(.slice Ao38 t298.length co38), (.slice Ao43 t299.length co43), (.slice Ao44 t300.length co44), .int .i64 t276, .int .i64 t277] 57 (0, 0))) ∧ Aside0 (Below w.heap.size w wc))
             case first =>
              have H := HC88.out
              clear HC88
              by_cases c89 : t301 = t297
              ·
               rw [if_pos c89] at H
               have c89b0 : (t301 == t297) = true := beq_iff_eq.mpr c89
               have c89b1 : (t301 != t297) = false := bne_eq_false_iff_eq.mpr c89
               clear c89
               (first | rw [c89b0] | (simp only [i64_w, i32_w]; rw [c89b0]) | skip)
               have H' := Aside0.mk H
               clear H
               go_wp2
               go_meet
               case rel => exact ⟨_, H', ⟨by have := HJ3.out; have := HJ13.out; have := HJ49.out; have := HJ58.out; have := HJ74.out; have := HJ78.out; first | omega | exact Nat.le_refl _⟩, ⟨by (try simp only [hl267000_58]); (try simp only [hl267001_58]); (try simp only [hl267002_58]); (try simp only [hl279000_78]); (try simp only [hl279001_78]); (try simp only [hl279002_78]); (with_reducible repeat (first | apply Kd.R_alloc | apply Kd.R_drewN | apply Kd.R_drew)); exact HO_255000.out⟩, ⟨by (try simp only [hl267000_58]); (try simp only [hl267001_58]); (try simp only [hl267002_58]); (try simp only [hl279000_78]); (try simp only [hl279001_78]); (try simp only [hl279002_78]); (with_reducible repeat (first | apply Kd.R_alloc | apply Kd.R_drewN | apply Kd.R_drew)); exact HO_255001.out⟩, ⟨by (try simp only [hl267000_58]); (try simp only [hl267001_58]); (try simp only [hl267002_58]); (try simp only [hl279000_78]); (try simp only [hl279001_78]); (try simp only [hl279002_78]); (with_reducible repeat (first | apply Kd.R_alloc | apply Kd.R_drewN | apply Kd.R_drew)); exact HO_255002.out⟩, ⟨by (try simp only [hl267000_58]); (try simp only [hl267001_58]); (try simp only [hl267002_58]); (try simp only [hl279000_78]); (try simp only [hl279001_78]); (try simp only [hl279002_78]); (with_reducible repeat (first | apply Kd.R_alloc | apply Kd.R_drewN | apply Kd.R_drew)); exact HO_267000.out⟩, ⟨by (try simp only [hl267000_58]); (try simp only [hl267001_58]); (try simp only [hl267002_58]); (try simp only [hl279000_78]); (try simp only [hl279001_78]); (try simp only [hl279002_78]); (with_reducible repeat (first | apply Kd.R_alloc | apply Kd.R_drewN | apply Kd.R_drew)); exact HO_267001.out⟩, ⟨by (try simp only [hl267000_58]); (try simp only [hl267001_58]); (try simp only [hl267002_58]); (try simp only [hl279000_78]); (try simp only [hl279001_78]); (try simp only [hl279002_78]); (with_reducible repeat (first | apply Kd.R_alloc | apply Kd.R_drewN | apply Kd.R_drew)); exact HO_267002.out⟩, ⟨by (try simp only [hl267000_58]); (try simp only [hl267001_58]); (try simp only [hl267002_58]); (try simp only [hl279000_78]); (try simp only [hl279001_78]); (try simp only [hl279002_78]); (with_reducible repeat (first | apply Kd.R_alloc | apply Kd.R_drewN | apply Kd.R_drew)); exact HO_279000.out⟩, ⟨by (try simp only [hl267000_58]); (try simp only [hl267001_58]); (try simp only [hl267002_58]); (try simp only [hl279000_78]); (try simp only [hl279001_78]); (try simp only [hl279002_78]); (with_reducible repeat (first | apply Kd.R_alloc | apply Kd.R_drewN | apply Kd.R_drew)); exact HO_279001.out⟩, ⟨by (try simp only [hl267000_58]); (try simp only [hl267001_58]); (try simp only [hl267002_58]); (try simp only [hl279000_78]); (try simp only [hl279001_78]); (try simp only [hl279002_78]); (with_reducible repeat (first | apply Kd.R_alloc | apply Kd.R_drewN | apply Kd.R_drew)); exact HO_279002.out⟩, ⟨by (try simp only [hl267000_58]); (try simp only [hl267001_58]); (try simp only [hl267002_58]); (try simp only [hl279000_78]); (try simp only [hl279001_78]); (try simp only [hl279002_78]); (with_reducible repeat (first | refine blk_drewN ?_ _ | refine blk_drew ?_ | refine blk_alloc ?_ _)); exact BK230.out⟩, ⟨by (try simp only [hl267000_58]); (try simp only [hl267001_58]); (try simp only [hl267002_58]); (try simp only [hl279000_78]); (try simp only [hl279001_78]); (try simp only [hl279002_78]); (with_reducible repeat (first | refine blk_drewN ?_ _ | refine blk_drew ?_ | refine blk_alloc ?_ _)); exact BK254.out⟩, ⟨by (try simp only [hl267000_58]); (try simp only [hl267001_58]); (try simp only [hl267002_58]); (try simp only [hl279000_78]); (try simp only [hl279001_78]); (try simp only [hl279002_78]); (with_reducible repeat (first | refine blk_drewN ?_ _ | refine blk_drew ?_ | refine blk_alloc ?_ _)); exact BK266.out⟩, ⟨by (try simp only [hl267000_58]); (try simp only [hl267001_58]); (try simp only [hl267002_58]); (try simp only [hl279000_78]); (try simp only [hl279001_78]); (try simp only [hl279002_78]); (with_reducible repeat (first | refine blk_drewN ?_ _ | refine blk_drew ?_ | refine blk_alloc ?_ _)); exact BK278.out⟩, ⟨by repeat (first | (with_reducible first | exact HB.out | apply below_alloc | apply pw_below_drewN | apply below_drew1 | refine below_set ?_ GE230.out | refine below_set ?_ GE254.out | refine below_set ?_ GE266.out | refine below_set ?_ GE278.out) | exact HB.out)⟩⟩
              ·
               rw [if_neg c89] at H
               have c89b0 : (t301 == t297) = false := beq_eq_false_iff_ne.mpr c89
               have c89b1 : (t301 != t297) = true := bne_iff_ne.mpr c89
               (first | rw [c89b0] | (simp only [i64_w, i32_w]; rw [c89b0]) | skip)
               obtain rfl := Option.some.inj H
               go_wp2
               go_ret
               exact ⟨by first | rfl | (simp [errW_none, errW_some] <;> rfl) | (simp [*, errW_none, errW_some] <;> rfl), by repeat (first | (with_reducible first | exact HB.out | apply below_alloc | apply pw_below_drewN | apply below_drew1 | refine below_set ?_ GE230.out | refine below_set ?_ GE254.out | refine below_set ?_ GE266.out | refine below_set ?_ GE278.out) | exact HB.out)⟩
             case rest =>
              clear HC88
              try clear c1
              try clear c2
              try clear p2
              try clear c3
              try clear c4
              try clear c5
              try clear c6
              try clear c7
              try clear c8
              try clear c8b0
              try clear c10
              try clear c23
              try clear c31
              try clear c32
              try clear c39
              try clear c40
              try clear c41
              try clear c43
              try clear c44
              try clear c47
              try clear c51
              try clear c52
              try clear c53
              try clear c54
              try clear c57
              try clear c60
              try clear c61
              try clear c62
              try clear c65
              try clear c65b0
              try clear c67
              try clear c68
              try clear c69
              try clear c71
              try clear c72
              try clear c76
              try clear c80
              try clear c81
              try clear c82
              try clear c87
              try clear c87b0
              try clear c89
              try clear c89b0
              try clear c89b1
              try clear hcz15_0
              try clear hcz15_1
              try clear hcz15_2
              try clear hcz15_3
              try clear hcz15_4
              try clear hcz24_0
              try clear hcz24_1
              try clear hcz24_2
              try clear hcz24_3
              try clear hcz24_4
              try clear hcz27_0
              try clear hcz27_1
              try clear hcz27_2
              try clear hcz27_3
              try clear hcz27_4
              try clear hcz33_0
              try clear hcz33_1
              try clear hcz33_2
              try clear hcz33_3
              try clear hcz33_4
              try clear hcz42_0
              try clear hcz42_1
              try clear hcz42_2
              try clear hcz42_3
              try clear hcz42_4
              try clear hcz45_0
              try clear hcz45_1
              try clear hcz45_2
              try clear hcz45_3
              try clear hcz45_4
              try clear hcz63_0
              try clear hcz63_1
              try clear hcz63_2
              try clear hcz63_3
              try clear hcz63_4
              try clear hcz6_0
              try clear hcz6_1
              try clear hcz6_2
              try clear hcz6_3
              try clear hcz6_4
              try clear hcz70_0
              try clear hcz70_1
              try clear hcz70_2
              try clear hcz70_3
              try clear hcz70_4
              try clear hcz73_0
              try clear hcz73_1
              try clear hcz73_2
              try clear hcz73_3
              try clear hcz73_4
              try clear hcz83_0
              try clear hcz83_1
              try clear hcz83_2
              try clear hcz83_3
              try clear hcz83_4
              try clear hcz85_0
              try clear hcz85_1
              try clear hcz85_2
              try clear hcz85_3
              try clear hcz85_4
              try clear hfz15_0
              try clear hfz15_1
              try clear hfz15_2
              try clear hfz15_3
              try clear hfz15_4
              try clear hfz24_0
              try clear hfz24_1
              try clear hfz24_2
              try clear hfz24_3
              try clear hfz24_4
              try clear hfz27_0
              try clear hfz27_1
              try clear hfz27_2
              try clear hfz27_3
              try clear hfz27_4
              try clear hfz33_0
              try clear hfz33_1
              try clear hfz33_2
              try clear hfz33_3
              try clear hfz33_4
              try clear hfz42_0
              try clear hfz42_1
              try clear hfz42_2
              try clear hfz42_3
              try clear hfz42_4
              try clear hfz45_0
              try clear hfz45_1
              try clear hfz45_2
              try clear hfz45_3
              try clear hfz45_4
              try clear hfz63_0
              try clear hfz63_1
              try clear hfz63_2
              try clear hfz63_3
              try clear hfz63_4
              try clear hfz6_0
              try clear hfz6_1
              try clear hfz6_2
              try clear hfz6_3
              try clear hfz6_4
              try clear hfz70_0
              try clear hfz70_1
              try clear hfz70_2
              try clear hfz70_3
              try clear hfz70_4
              try clear hfz73_0
              try clear hfz73_1
              try clear hfz73_2
              try clear hfz73_3
              try clear hfz73_4
              try clear hfz83_0
              try clear hfz83_1
              try clear hfz83_2
              try clear hfz83_3
              try clear hfz83_4
              try clear hfz85_0
              try clear hfz85_1
              try clear hfz85_2
              try clear hfz85_3
              try clear hfz85_4
              try clear p2
              obtain ⟨kq, HA, HJ87, HO_255000, HO_255001, HO_255002, HO_267000, HO_267001, HO_267002, HO_279000, HO_279001, HO_279002, BK230, BK254, BK266, BK278, HB⟩ := hcut
              cases kq with
              | zero => exact absurd HA.out (by simp [laws_FnExactTold.j6])
              | succ kj87 =>
               have H := HA.out
               clear HA
               simp only [laws_FnExactTold.j6] at H
               replace H := Option.bind_eq_some_iff.mp H
               obtain ⟨⟨t302, t305, t308, t311, t312⟩, A900, H⟩ := H
               replace H : ((impl_Told.f t302 t305 t308 t311 t312 a1).bind fun bt313 => ((laws_eqMemory.f kj87 bt313.1 bt313.2.1 bt313.2.2.1 bt313.2.2.2.1 bt313.2.2.2.2 t243 t246 t249 t252 t253).bind fun t325 => (if t325 = true then (laws_FnExactTold.j7 kj87 t297 t298 t299 t300 t276 t277) else (some false)))) = some r := H
               have A90 := Aside0.mk A900
               clear A900
               replace H := Option.bind_eq_some_iff.mp H
               obtain ⟨⟨t313, t316, t319, t322, t323⟩, A910, H⟩ := H
               replace H : ((laws_eqMemory.f kj87 t313 t316 t319 t322 t323 t243 t246 t249 t252 t253).bind fun t325 => (if t325 = true then (laws_FnExactTold.j7 kj87 t297 t298 t299 t300 t276 t277) else (some false))) = some r := H
               have A91 := Aside0.mk A910
               clear A910
               replace H := Option.bind_eq_some_iff.mp H
               obtain ⟨t325, A920, H⟩ := H
               replace H : (if t325 = true then (laws_FnExactTold.j7 kj87 t297 t298 t299 t300 t276 t277) else (some false)) = some r := H
               have A92 := Aside0.mk A920
               clear A920
               have HC93 := Aside0.mk H
               clear H
               have hnb94 := NB230_254.out
               have hnc94 := NB254_230.out
               have hnb95 := NB230_266.out
               have hnc95 := NB266_230.out
               have hnb96 := NB230_278.out
               have hnc96 := NB278_230.out
               have hcz97_0 : wc.cell? ⟨gb230, 0, none⟩ = some (.slice A0_0 l0_0.length c0_0) := (blk_cell BK230.out 0).trans rfl
               have hcz97_1 : wc.cell? ⟨gb230, 1, none⟩ = some (.slice A0_1 l0_1.length c0_1) := (blk_cell BK230.out 1).trans rfl
               have hcz97_2 : wc.cell? ⟨gb230, 2, none⟩ = some (.slice A0_2 l0_2.length c0_2) := (blk_cell BK230.out 2).trans rfl
               have hcz97_3 : wc.cell? ⟨gb230, 3, none⟩ = some (.int .i64 a0_3) := (blk_cell BK230.out 3).trans rfl
               have hcz97_4 : wc.cell? ⟨gb230, 4, none⟩ = some (.int .i64 a0_4) := (blk_cell BK230.out 4).trans rfl
               have hfz97_0 := blk_frozen BK230.out 0
               have hfz97_1 := blk_frozen BK230.out 1
               have hfz97_2 := blk_frozen BK230.out 2
               have hfz97_3 := blk_frozen BK230.out 3
               have hfz97_4 := blk_frozen BK230.out 4
               go_upto_if 65 with (first | ((with_reducible refine gate_callee (f := 53) rfl ?_); refine goesL_ (some 59) rfl rfl Try.func53 (by kernel_rfl) rfl #[.agg #[.slice A0_0 l0_0.length c0_0, .slice A0_1 l0_1.length c0_1, .slice A0_2 l0_2.length c0_2, .int .i64 a0_3, .int .i64 a0_4]] rfl (by (try simp only [List.map_toArray, List.map_cons, List.map_nil]); first | done | rfl | (simp only [List.length_drop, List.length_take]; rfl)) ?_; (with_reducible refine (laws_toMemory.calls kj87 _ _ l0_0 _ _ l0_1 _ _ l0_2 a0_3 a0_4 t302 t305 t308 t311 t312 _ ?side1 ?side2 ?side3 ?side4 ?side5 ?side6 A90.out).mono ?_); (case side1 => repeat (first | exact (Kd.C_below HR0_0.out HB.out) | (with_reducible refine Kd.C_alloc ?_ _) | (with_reducible refine Kd.C_drewN ?_ _) | (with_reducible refine Kd.C_drew ?_))); (case side2 => exact HC0_0.out); (case side3 => repeat (first | exact (Kd.C_below HR0_1.out HB.out) | (with_reducible refine Kd.C_alloc ?_ _) | (with_reducible refine Kd.C_drewN ?_ _) | (with_reducible refine Kd.C_drew ?_))); (case side4 => exact HC0_1.out); (case side5 => repeat (first | exact (Kd.C_below HR0_2.out HB.out) | (with_reducible refine Kd.C_alloc ?_ _) | (with_reducible refine Kd.C_drewN ?_ _) | (with_reducible refine Kd.C_drew ?_))); (case side6 => exact HC0_2.out); rintro e w98 ⟨v303, v306, v309, rfl, ho0, ho1, ho2, hb⟩; refine ⟨_, rfl, ?_⟩; have n0_ := Aside0.mk (Kd.R_elder' (by (with_reducible repeat (first | apply Kd.R_alloc | apply Kd.R_drewN | apply Kd.R_drew)); exact HO_255000.out) (Kd.R_base ho0) hb); have n1_ := Aside0.mk (Kd.R_mono (Kd.R_told (Kd.R_told (Kd.R_old (by (with_reducible repeat (first | apply Kd.R_alloc | apply Kd.R_drewN | apply Kd.R_drew)); exact HO_255001.out) hb) (Kd.R_base ho1)) (Kd.R_base ho2)) (fun _ h_ => h_.1)); have n2_ := Aside0.mk (Kd.R_mono (Kd.R_told (Kd.R_told (Kd.R_old (by (with_reducible repeat (first | apply Kd.R_alloc | apply Kd.R_drewN | apply Kd.R_drew)); exact HO_255002.out) hb) (Kd.R_base ho1)) (Kd.R_base ho2)) (fun _ h_ => h_.1)); have n3_ := Aside0.mk (Kd.R_elder' (by (with_reducible repeat (first | apply Kd.R_alloc | apply Kd.R_drewN | apply Kd.R_drew)); exact HO_279000.out) (Kd.R_base ho0) hb); have n4_ := Aside0.mk (Kd.R_mono (Kd.R_told (Kd.R_told (Kd.R_old (by (with_reducible repeat (first | apply Kd.R_alloc | apply Kd.R_drewN | apply Kd.R_drew)); exact HO_279001.out) hb) (Kd.R_base ho1)) (Kd.R_base ho2)) (fun _ h_ => h_.1)); have n5_ := Aside0.mk (Kd.R_mono (Kd.R_told (Kd.R_told (Kd.R_old (by (with_reducible repeat (first | apply Kd.R_alloc | apply Kd.R_drewN | apply Kd.R_drew)); exact HO_279002.out) hb) (Kd.R_base ho1)) (Kd.R_base ho2)) (fun _ h_ => h_.1)); have n6_ := Aside0.mk (Kd.R_lower (Kd.R_new' (Kd.R_new' ho0 (Kd.R_lt (by (with_reducible repeat (first | apply Kd.R_alloc | apply Kd.R_drewN | apply Kd.R_drew)); exact HO_255000.out))) (Kd.R_lt (by (with_reducible repeat (first | apply Kd.R_alloc | apply Kd.R_drewN | apply Kd.R_drew)); exact HO_279000.out))) (below_size (by repeat (first | (with_reducible first | exact HB.out | apply below_alloc | apply pw_below_drewN | apply below_drew1 | refine below_set ?_ GE230.out | refine below_set ?_ GE254.out | refine below_set ?_ GE266.out | refine below_set ?_ GE278.out) | exact HB.out)))); have n7_ := Aside0.mk (Kd.R_lower (Kd.R_new' (Kd.R_new' (Kd.R_new' (Kd.R_new' ho1 (Kd.R_lt (by (with_reducible repeat (first | apply Kd.R_alloc | apply Kd.R_drewN | apply Kd.R_drew)); exact HO_255001.out))) (Kd.R_lt (by (with_reducible repeat (first | apply Kd.R_alloc | apply Kd.R_drewN | apply Kd.R_drew)); exact HO_255002.out))) (Kd.R_lt (by (with_reducible repeat (first | apply Kd.R_alloc | apply Kd.R_drewN | apply Kd.R_drew)); exact HO_279001.out))) (Kd.R_lt (by (with_reducible repeat (first | apply Kd.R_alloc | apply Kd.R_drewN | apply Kd.R_drew)); exact HO_279002.out))) (below_size (by repeat (first | (with_reducible first | exact HB.out | apply below_alloc | apply pw_below_drewN | apply below_drew1 | refine below_set ?_ GE230.out | refine below_set ?_ GE254.out | refine below_set ?_ GE266.out | refine below_set ?_ GE278.out) | exact HB.out)))); have n8_ := Aside0.mk (Kd.R_lower (Kd.R_new' (Kd.R_new' (Kd.R_new' (Kd.R_new' ho2 (Kd.R_lt (by (with_reducible repeat (first | apply Kd.R_alloc | apply Kd.R_drewN | apply Kd.R_drew)); exact HO_255001.out))) (Kd.R_lt (by (with_reducible repeat (first | apply Kd.R_alloc | apply Kd.R_drewN | apply Kd.R_drew)); exact HO_255002.out))) (Kd.R_lt (by (with_reducible repeat (first | apply Kd.R_alloc | apply Kd.R_drewN | apply Kd.R_drew)); exact HO_279001.out))) (Kd.R_lt (by (with_reducible repeat (first | apply Kd.R_alloc | apply Kd.R_drewN | apply Kd.R_drew)); exact HO_279002.out))) (below_size (by repeat (first | (with_reducible first | exact HB.out | apply below_alloc | apply pw_below_drewN | apply below_drew1 | refine below_set ?_ GE230.out | refine below_set ?_ GE254.out | refine below_set ?_ GE266.out | refine below_set ?_ GE278.out) | exact HB.out)))); have n9_ := Aside0.mk (blk_below (g := gb230) (o := .cells #[.slice A0_0 l0_0.length c0_0, .slice A0_1 l0_1.length c0_1, .slice A0_2 l0_2.length c0_2, .int .i64 a0_3, .int .i64 a0_4] 77 (0, 0)) (by (with_reducible repeat (first | refine blk_drewN ?_ _ | refine blk_drew ?_ | refine blk_alloc ?_ _)); exact BK230.out) hb); have n10_ := Aside0.mk (blk_below (g := gb254) (o := .cells #[.slice Ao22 t243.length co22, .slice Ao25 t246.length co25, .slice Ao26 t249.length co26, .int .i64 t252, .int .i64 t253] 57 (0, 0)) (by (with_reducible repeat (first | refine blk_drewN ?_ _ | refine blk_drew ?_ | refine blk_alloc ?_ _)); exact BK254.out) hb); have n11_ := Aside0.mk (blk_below (g := gb266) (o := .cells #[.slice Ao30 t293.length co30, .slice Ao34 t294.length co34, .slice Ao35 t295.length co35, .int .i64 t264, .int .i64 t265] 57 (0, 0)) (by (with_reducible repeat (first | refine blk_drewN ?_ _ | refine blk_drew ?_ | refine blk_alloc ?_ _)); exact BK266.out) hb); have n12_ := Aside0.mk (blk_below (g := gb278) (o := .cells #[.slice Ao38 t298.length co38, .slice Ao43 t299.length co43, .slice Ao44 t300.length co44, .int .i64 t276, .int .i64 t277] 57 (0, 0)) (by (with_reducible repeat (first | refine blk_drewN ?_ _ | refine blk_drew ?_ | refine blk_alloc ?_ _)); exact BK278.out) hb); have n13_ := Aside0.mk (below_step (by repeat (first | (with_reducible first | exact HB.out | apply below_alloc | apply pw_below_drewN | apply below_drew1 | refine below_set ?_ GE230.out | refine below_set ?_ GE254.out | refine below_set ?_ GE266.out | refine below_set ?_ GE278.out) | exact HB.out)) hb); clear HO_255000; clear HO_255001; clear HO_255002; clear HO_279000; clear HO_279001; clear HO_279002; clear BK230; clear BK254; clear BK266; clear BK278; clear HB; have HO_255000 := n0_; have HO_255001 := n1_; have HO_255002 := n2_; have HO_279000 := n3_; have HO_279001 := n4_; have HO_279002 := n5_; have HO304 := n6_; have HO307 := n7_; have HO310 := n8_; have BK230 := n9_; have BK254 := n10_; have BK266 := n11_; have BK278 := n12_; have HB := n13_; clear n0_ n1_ n2_ n3_ n4_ n5_ n6_ n7_ n8_ n9_ n10_ n11_ n12_ n13_; (try clear hb); (try clear hb2); (try clear hk); (try clear hi); (try clear ho0); (try clear ho1); (try clear ho2); obtain ⟨Ao99, co99, eo99⟩ := Kd.R_slice HO304.out; subst eo99; obtain ⟨Ao100, co100, eo100⟩ := Kd.R_slice HO307.out; subst eo100; obtain ⟨Ao101, co101, eo101⟩ := Kd.R_slice HO310.out; subst eo101) | ((with_reducible refine gate_callee (f := 54) rfl ?_); refine goesL_ (some 61) rfl rfl Try.func54 (by kernel_rfl) rfl #[.agg #[.slice Ao99 t302.length co99, .slice Ao100 t305.length co100, .slice Ao101 t308.length co101, .int .i64 t311, .int .i64 t312], .int .i64 a1] rfl (by (try simp only [List.map_toArray, List.map_cons, List.map_nil]); first | done | rfl | (simp only [List.length_drop, List.length_take]; rfl)) ?_; (with_reducible refine (impl_Told.calls _ _ t302 _ _ t305 _ _ t308 t311 t312 a1 t313 t316 t319 t322 t323 _ ?side1 ?side2 ?side3 ?side4 ?side5 ?side6 A91.out).mono ?_); (case side1 => repeat (first | exact (Kd.R_reads' HO304.out).2.2 | (with_reducible refine Kd.C_alloc ?_ _) | (with_reducible refine Kd.C_drewN ?_ _) | (with_reducible refine Kd.C_drew ?_))); (case side2 => exact (Kd.R_reads' HO304.out).2.1); (case side3 => repeat (first | exact (Kd.R_reads' HO307.out).2.2 | (with_reducible refine Kd.C_alloc ?_ _) | (with_reducible refine Kd.C_drewN ?_ _) | (with_reducible refine Kd.C_drew ?_))); (case side4 => exact (Kd.R_reads' HO307.out).2.1); (case side5 => repeat (first | exact (Kd.R_reads' HO310.out).2.2 | (with_reducible refine Kd.C_alloc ?_ _) | (with_reducible refine Kd.C_drewN ?_ _) | (with_reducible refine Kd.C_drew ?_))); (case side6 => exact (Kd.R_reads' HO310.out).2.1); rintro e w102 ⟨v314, v317, v320, rfl, ho0, ho1, ho2, hb⟩; refine ⟨_, rfl, ?_⟩; have n0_ := Aside0.mk (Kd.R_elder' (by (with_reducible repeat (first | apply Kd.R_alloc | apply Kd.R_drewN | apply Kd.R_drew)); exact HO_255000.out) (Kd.R_base ho0) hb); have n1_ := Aside0.mk (Kd.R_mono (Kd.R_told (Kd.R_told (Kd.R_old (by (with_reducible repeat (first | apply Kd.R_alloc | apply Kd.R_drewN | apply Kd.R_drew)); exact HO_255001.out) hb) (Kd.R_base ho1)) (Kd.R_base ho2)) (fun _ h_ => h_.1)); have n2_ := Aside0.mk (Kd.R_mono (Kd.R_told (Kd.R_told (Kd.R_old (by (with_reducible repeat (first | apply Kd.R_alloc | apply Kd.R_drewN | apply Kd.R_drew)); exact HO_255002.out) hb) (Kd.R_base ho1)) (Kd.R_base ho2)) (fun _ h_ => h_.1)); have n3_ := Aside0.mk (Kd.R_elder' (by (with_reducible repeat (first | apply Kd.R_alloc | apply Kd.R_drewN | apply Kd.R_drew)); exact HO_279000.out) (Kd.R_base ho0) hb); have n4_ := Aside0.mk (Kd.R_mono (Kd.R_told (Kd.R_told (Kd.R_old (by (with_reducible repeat (first | apply Kd.R_alloc | apply Kd.R_drewN | apply Kd.R_drew)); exact HO_279001.out) hb) (Kd.R_base ho1)) (Kd.R_base ho2)) (fun _ h_ => h_.1)); have n5_ := Aside0.mk (Kd.R_mono (Kd.R_told (Kd.R_told (Kd.R_old (by (with_reducible repeat (first | apply Kd.R_alloc | apply Kd.R_drewN | apply Kd.R_drew)); exact HO_279002.out) hb) (Kd.R_base ho1)) (Kd.R_base ho2)) (fun _ h_ => h_.1)); have n6_ := Aside0.mk (Kd.R_elder' (by (with_reducible repeat (first | apply Kd.R_alloc | apply Kd.R_drewN | apply Kd.R_drew)); exact HO304.out) (Kd.R_base ho0) hb); have n7_ := Aside0.mk (Kd.R_mono (Kd.R_told (Kd.R_told (Kd.R_old (by (with_reducible repeat (first | apply Kd.R_alloc | apply Kd.R_drewN | apply Kd.R_drew)); exact HO307.out) hb) (Kd.R_base ho1)) (Kd.R_base ho2)) (fun _ h_ => h_.1)); have n8_ := Aside0.mk (Kd.R_mono (Kd.R_told (Kd.R_told (Kd.R_old (by (with_reducible repeat (first | apply Kd.R_alloc | apply Kd.R_drewN | apply Kd.R_drew)); exact HO310.out) hb) (Kd.R_base ho1)) (Kd.R_base ho2)) (fun _ h_ => h_.1)); have n9_ := Aside0.mk (Kd.R_lower (Kd.R_new' (Kd.R_new' (Kd.R_new' ho0 (Kd.R_lt (by (with_reducible repeat (first | apply Kd.R_alloc | apply Kd.R_drewN | apply Kd.R_drew)); exact HO_255000.out))) (Kd.R_lt (by (with_reducible repeat (first | apply Kd.R_alloc | apply Kd.R_drewN | apply Kd.R_drew)); exact HO_279000.out))) (Kd.R_lt (by (with_reducible repeat (first | apply Kd.R_alloc | apply Kd.R_drewN | apply Kd.R_drew)); exact HO304.out))) (below_size (by repeat (first | (with_reducible first | exact HB.out | apply below_alloc | apply pw_below_drewN | apply below_drew1 | refine below_set ?_ GE230.out | refine below_set ?_ GE254.out | refine below_set ?_ GE266.out | refine below_set ?_ GE278.out) | exact HB.out)))); have n10_ := Aside0.mk (Kd.R_lower (Kd.R_new' (Kd.R_new' (Kd.R_new' (Kd.R_new' (Kd.R_new' (Kd.R_new' ho1 (Kd.R_lt (by (with_reducible repeat (first | apply Kd.R_alloc | apply Kd.R_drewN | apply Kd.R_drew)); exact HO_255001.out))) (Kd.R_lt (by (with_reducible repeat (first | apply Kd.R_alloc | apply Kd.R_drewN | apply Kd.R_drew)); exact HO_255002.out))) (Kd.R_lt (by (with_reducible repeat (first | apply Kd.R_alloc | apply Kd.R_drewN | apply Kd.R_drew)); exact HO_279001.out))) (Kd.R_lt (by (with_reducible repeat (first | apply Kd.R_alloc | apply Kd.R_drewN | apply Kd.R_drew)); exact HO_279002.out))) (Kd.R_lt (by (with_reducible repeat (first | apply Kd.R_alloc | apply Kd.R_drewN | apply Kd.R_drew)); exact HO307.out))) (Kd.R_lt (by (with_reducible repeat (first | apply Kd.R_alloc | apply Kd.R_drewN | apply Kd.R_drew)); exact HO310.out))) (below_size (by repeat (first | (with_reducible first | exact HB.out | apply below_alloc | apply pw_below_drewN | apply below_drew1 | refine below_set ?_ GE230.out | refine below_set ?_ GE254.out | refine below_set ?_ GE266.out | refine below_set ?_ GE278.out) | exact HB.out)))); have n11_ := Aside0.mk (Kd.R_lower (Kd.R_new' (Kd.R_new' (Kd.R_new' (Kd.R_new' (Kd.R_new' (Kd.R_new' ho2 (Kd.R_lt (by (with_reducible repeat (first | apply Kd.R_alloc | apply Kd.R_drewN | apply Kd.R_drew)); exact HO_255001.out))) (Kd.R_lt (by (with_reducible repeat (first | apply Kd.R_alloc | apply Kd.R_drewN | apply Kd.R_drew)); exact HO_255002.out))) (Kd.R_lt (by (with_reducible repeat (first | apply Kd.R_alloc | apply Kd.R_drewN | apply Kd.R_drew)); exact HO_279001.out))) (Kd.R_lt (by (with_reducible repeat (first | apply Kd.R_alloc | apply Kd.R_drewN | apply Kd.R_drew)); exact HO_279002.out))) (Kd.R_lt (by (with_reducible repeat (first | apply Kd.R_alloc | apply Kd.R_drewN | apply Kd.R_drew)); exact HO307.out))) (Kd.R_lt (by (with_reducible repeat (first | apply Kd.R_alloc | apply Kd.R_drewN | apply Kd.R_drew)); exact HO310.out))) (below_size (by repeat (first | (with_reducible first | exact HB.out | apply below_alloc | apply pw_below_drewN | apply below_drew1 | refine below_set ?_ GE230.out | refine below_set ?_ GE254.out | refine below_set ?_ GE266.out | refine below_set ?_ GE278.out) | exact HB.out)))); have n12_ := Aside0.mk (blk_below (g := gb230) (o := .cells #[.slice A0_0 l0_0.length c0_0, .slice A0_1 l0_1.length c0_1, .slice A0_2 l0_2.length c0_2, .int .i64 a0_3, .int .i64 a0_4] 77 (0, 0)) (by (with_reducible repeat (first | refine blk_drewN ?_ _ | refine blk_drew ?_ | refine blk_alloc ?_ _)); exact BK230.out) hb); have n13_ := Aside0.mk (blk_below (g := gb254) (o := .cells #[.slice Ao22 t243.length co22, .slice Ao25 t246.length co25, .slice Ao26 t249.length co26, .int .i64 t252, .int .i64 t253] 57 (0, 0)) (by (with_reducible repeat (first | refine blk_drewN ?_ _ | refine blk_drew ?_ | refine blk_alloc ?_ _)); exact BK254.out) hb); have n14_ := Aside0.mk (blk_below (g := gb266) (o := .cells #[.slice Ao30 t293.length co30, .slice Ao34 t294.length co34, .slice Ao35 t295.length co35, .int .i64 t264, .int .i64 t265] 57 (0, 0)) (by (with_reducible repeat (first | refine blk_drewN ?_ _ | refine blk_drew ?_ | refine blk_alloc ?_ _)); exact BK266.out) hb); have n15_ := Aside0.mk (blk_below (g := gb278) (o := .cells #[.slice Ao38 t298.length co38, .slice Ao43 t299.length co43, .slice Ao44 t300.length co44, .int .i64 t276, .int .i64 t277] 57 (0, 0)) (by (with_reducible repeat (first | refine blk_drewN ?_ _ | refine blk_drew ?_ | refine blk_alloc ?_ _)); exact BK278.out) hb); have n16_ := Aside0.mk (below_step (by repeat (first | (with_reducible first | exact HB.out | apply below_alloc | apply pw_below_drewN | apply below_drew1 | refine below_set ?_ GE230.out | refine below_set ?_ GE254.out | refine below_set ?_ GE266.out | refine below_set ?_ GE278.out) | exact HB.out)) hb); clear HO_255000; clear HO_255001; clear HO_255002; clear HO_279000; clear HO_279001; clear HO_279002; clear HO304; clear HO307; clear HO310; clear BK230; clear BK254; clear BK266; clear BK278; clear HB; have HO_255000 := n0_; have HO_255001 := n1_; have HO_255002 := n2_; have HO_279000 := n3_; have HO_279001 := n4_; have HO_279002 := n5_; have HO304 := n6_; have HO307 := n7_; have HO310 := n8_; have HO315 := n9_; have HO318 := n10_; have HO321 := n11_; have BK230 := n12_; have BK254 := n13_; have BK266 := n14_; have BK278 := n15_; have HB := n16_; clear n0_ n1_ n2_ n3_ n4_ n5_ n6_ n7_ n8_ n9_ n10_ n11_ n12_ n13_ n14_ n15_ n16_; (try clear hb); (try clear hb2); (try clear hk); (try clear hi); (try clear ho0); (try clear ho1); (try clear ho2)) | ((with_reducible refine gate_dst (N := 12) rfl ?_); refine box_event ?hg (N := 12) ?hd (cs := #[.slice none 0 0, .slice none 0 0, .slice none 0 0, .int .i64 0, .int .i64 0]) (t := 57) ?hr ?_; (case hd => rfl); (case hg => rfl); (case hr => first | (go_simp; done) | (go_simp; rfl)); intro gb324 hg w103 hbox hb; have n0_ := Aside0.mk (Kd.R_below (by (with_reducible repeat (first | apply Kd.R_alloc | apply Kd.R_drewN | apply Kd.R_drew)); exact HO_255000.out) hb); have n1_ := Aside0.mk (Kd.R_below (by (with_reducible repeat (first | apply Kd.R_alloc | apply Kd.R_drewN | apply Kd.R_drew)); exact HO_255001.out) hb); have n2_ := Aside0.mk (Kd.R_below (by (with_reducible repeat (first | apply Kd.R_alloc | apply Kd.R_drewN | apply Kd.R_drew)); exact HO_255002.out) hb); have n3_ := Aside0.mk (Kd.R_below (by (with_reducible repeat (first | apply Kd.R_alloc | apply Kd.R_drewN | apply Kd.R_drew)); exact HO_279000.out) hb); have n4_ := Aside0.mk (Kd.R_below (by (with_reducible repeat (first | apply Kd.R_alloc | apply Kd.R_drewN | apply Kd.R_drew)); exact HO_279001.out) hb); have n5_ := Aside0.mk (Kd.R_below (by (with_reducible repeat (first | apply Kd.R_alloc | apply Kd.R_drewN | apply Kd.R_drew)); exact HO_279002.out) hb); have n6_ := Aside0.mk (Kd.R_below (by (with_reducible repeat (first | apply Kd.R_alloc | apply Kd.R_drewN | apply Kd.R_drew)); exact HO315.out) hb); have n7_ := Aside0.mk (Kd.R_below (by (with_reducible repeat (first | apply Kd.R_alloc | apply Kd.R_drewN | apply Kd.R_drew)); exact HO318.out) hb); have n8_ := Aside0.mk (Kd.R_below (by (with_reducible repeat (first | apply Kd.R_alloc | apply Kd.R_drewN | apply Kd.R_drew)); exact HO321.out) hb); have n9_ := Aside0.mk (blk_below (g := gb230) (o := .cells #[.slice A0_0 l0_0.length c0_0, .slice A0_1 l0_1.length c0_1, .slice A0_2 l0_2.length c0_2, .int .i64 a0_3, .int .i64 a0_4] 77 (0, 0)) (by (with_reducible repeat (first | refine blk_drewN ?_ _ | refine blk_drew ?_ | refine blk_alloc ?_ _)); exact BK230.out) hb); have n10_ := Aside0.mk (blk_below (g := gb254) (o := .cells #[.slice Ao22 t243.length co22, .slice Ao25 t246.length co25, .slice Ao26 t249.length co26, .int .i64 t252, .int .i64 t253] 57 (0, 0)) (by (with_reducible repeat (first | refine blk_drewN ?_ _ | refine blk_drew ?_ | refine blk_alloc ?_ _)); exact BK254.out) hb); have n11_ := Aside0.mk (blk_below (g := gb266) (o := .cells #[.slice Ao30 t293.length co30, .slice Ao34 t294.length co34, .slice Ao35 t295.length co35, .int .i64 t264, .int .i64 t265] 57 (0, 0)) (by (with_reducible repeat (first | refine blk_drewN ?_ _ | refine blk_drew ?_ | refine blk_alloc ?_ _)); exact BK266.out) hb); have n12_ := Aside0.mk (blk_below (g := gb278) (o := .cells #[.slice Ao38 t298.length co38, .slice Ao43 t299.length co43, .slice Ao44 t300.length co44, .int .i64 t276, .int .i64 t277] 57 (0, 0)) (by (with_reducible repeat (first | refine blk_drewN ?_ _ | refine blk_drew ?_ | refine blk_alloc ?_ _)); exact BK278.out) hb); have n13_ := Aside0.mk (below_step (by repeat (first | (with_reducible first | exact HB.out | apply below_alloc | apply pw_below_drewN | apply below_drew1 | refine below_set ?_ GE230.out | refine below_set ?_ GE254.out | refine below_set ?_ GE266.out | refine below_set ?_ GE278.out) | exact HB.out)) hb); have n14_ := Aside0.mk (hbox); have n15_ := Aside0.mk ((by rw [hg]; exact (below_size (by repeat (first | (with_reducible first | exact HB.out | apply below_alloc | apply pw_below_drewN | apply below_drew1 | refine below_set ?_ GE230.out | refine below_set ?_ GE254.out | refine below_set ?_ GE266.out | refine below_set ?_ GE278.out) | exact HB.out))) : w.heap.size ≤ gb324)); have n16_ := Aside0.mk ((by rw [hg]; exact (below_size (by repeat (first | (with_reducible first | exact HB.out | apply below_alloc | apply pw_below_drewN | apply below_drew1 | refine below_set ?_ GE230.out | refine below_set ?_ GE254.out | refine below_set ?_ GE266.out | refine below_set ?_ GE278.out) | exact HB.out))) : w.heap.size ≤ gb324)); have n17_ := Aside0.mk ((by rw [hg]; exact Nat.ne_of_lt (blk_lt (g := gb230) (o := .cells #[.slice A0_0 l0_0.length c0_0, .slice A0_1 l0_1.length c0_1, .slice A0_2 l0_2.length c0_2, .int .i64 a0_3, .int .i64 a0_4] 77 (0, 0)) (by (with_reducible repeat (first | refine blk_drewN ?_ _ | refine blk_drew ?_ | refine blk_alloc ?_ _)); exact BK230.out)) : gb230 ≠ gb324)); have n18_ := Aside0.mk ((by rw [hg]; exact Nat.ne_of_gt (blk_lt (g := gb230) (o := .cells #[.slice A0_0 l0_0.length c0_0, .slice A0_1 l0_1.length c0_1, .slice A0_2 l0_2.length c0_2, .int .i64 a0_3, .int .i64 a0_4] 77 (0, 0)) (by (with_reducible repeat (first | refine blk_drewN ?_ _ | refine blk_drew ?_ | refine blk_alloc ?_ _)); exact BK230.out)) : gb324 ≠ gb230)); have n19_ := Aside0.mk ((by rw [hg]; exact Nat.ne_of_lt (blk_lt (g := gb254) (o := .cells #[.slice Ao22 t243.length co22, .slice Ao25 t246.length co25, .slice Ao26 t249.length co26, .int .i64 t252, .int .i64 t253] 57 (0, 0)) (by (with_reducible repeat (first | refine blk_drewN ?_ _ | refine blk_drew ?_ | refine blk_alloc ?_ _)); exact BK254.out)) : gb254 ≠ gb324)); have n20_ := Aside0.mk ((by rw [hg]; exact Nat.ne_of_gt (blk_lt (g := gb254) (o := .cells #[.slice Ao22 t243.length co22, .slice Ao25 t246.length co25, .slice Ao26 t249.length co26, .int .i64 t252, .int .i64 t253] 57 (0, 0)) (by (with_reducible repeat (first | refine blk_drewN ?_ _ | refine blk_drew ?_ | refine blk_alloc ?_ _)); exact BK254.out)) : gb324 ≠ gb254)); have n21_ := Aside0.mk ((by rw [hg]; exact Nat.ne_of_lt (blk_lt (g := gb266) (o := .cells #[.slice Ao30 t293.length co30, .slice Ao34 t294.length co34, .slice Ao35 t295.length co35, .int .i64 t264, .int .i64 t265] 57 (0, 0)) (by (with_reducible repeat (first | refine blk_drewN ?_ _ | refine blk_drew ?_ | refine blk_alloc ?_ _)); exact BK266.out)) : gb266 ≠ gb324)); have n22_ := Aside0.mk ((by rw [hg]; exact Nat.ne_of_gt (blk_lt (g := gb266) (o := .cells #[.slice Ao30 t293.length co30, .slice Ao34 t294.length co34, .slice Ao35 t295.length co35, .int .i64 t264, .int .i64 t265] 57 (0, 0)) (by (with_reducible repeat (first | refine blk_drewN ?_ _ | refine blk_drew ?_ | refine blk_alloc ?_ _)); exact BK266.out)) : gb324 ≠ gb266)); have n23_ := Aside0.mk ((by rw [hg]; exact Nat.ne_of_lt (blk_lt (g := gb278) (o := .cells #[.slice Ao38 t298.length co38, .slice Ao43 t299.length co43, .slice Ao44 t300.length co44, .int .i64 t276, .int .i64 t277] 57 (0, 0)) (by (with_reducible repeat (first | refine blk_drewN ?_ _ | refine blk_drew ?_ | refine blk_alloc ?_ _)); exact BK278.out)) : gb278 ≠ gb324)); have n24_ := Aside0.mk ((by rw [hg]; exact Nat.ne_of_gt (blk_lt (g := gb278) (o := .cells #[.slice Ao38 t298.length co38, .slice Ao43 t299.length co43, .slice Ao44 t300.length co44, .int .i64 t276, .int .i64 t277] 57 (0, 0)) (by (with_reducible repeat (first | refine blk_drewN ?_ _ | refine blk_drew ?_ | refine blk_alloc ?_ _)); exact BK278.out)) : gb324 ≠ gb278)); clear HO_255000; clear HO_255001; clear HO_255002; clear HO_279000; clear HO_279001; clear HO_279002; clear HO315; clear HO318; clear HO321; clear BK230; clear BK254; clear BK266; clear BK278; clear HB; have HO_255000 := n0_; have HO_255001 := n1_; have HO_255002 := n2_; have HO_279000 := n3_; have HO_279001 := n4_; have HO_279002 := n5_; have HO315 := n6_; have HO318 := n7_; have HO321 := n8_; have BK230 := n9_; have BK254 := n10_; have BK266 := n11_; have BK278 := n12_; have HB := n13_; have BK324 := n14_; have GW324 := n15_; have GE324 := n16_; have NB230_324 := n17_; have NB324_230 := n18_; have NB254_324 := n19_; have NB324_254 := n20_; have NB266_324 := n21_; have NB324_266 := n22_; have NB278_324 := n23_; have NB324_278 := n24_; clear n0_ n1_ n2_ n3_ n4_ n5_ n6_ n7_ n8_ n9_ n10_ n11_ n12_ n13_ n14_ n15_ n16_ n17_ n18_ n19_ n20_ n21_ n22_ n23_ n24_; clear hb hbox hg; obtain ⟨Ao104, co104, eo104⟩ := Kd.R_slice HO315.out; subst eo104; have hnb105 := NB324_230.out; have hnc105 := NB230_324.out; have hnb106 := NB324_254.out; have hnc106 := NB254_324.out; have hnb107 := NB324_266.out; have hnc107 := NB266_324.out; have hnb108 := NB324_278.out; have hnc108 := NB278_324.out; have hcz109_0 : w103.cell? ⟨gb324, 0, none⟩ = some (.slice none 0 0) := (blk_cell BK324.out 0).trans rfl; have hcz109_1 : w103.cell? ⟨gb324, 1, none⟩ = some (.slice none 0 0) := (blk_cell BK324.out 1).trans rfl; have hcz109_2 : w103.cell? ⟨gb324, 2, none⟩ = some (.slice none 0 0) := (blk_cell BK324.out 2).trans rfl; have hcz109_3 : w103.cell? ⟨gb324, 3, none⟩ = some (.int .i64 0) := (blk_cell BK324.out 3).trans rfl; have hcz109_4 : w103.cell? ⟨gb324, 4, none⟩ = some (.int .i64 0) := (blk_cell BK324.out 4).trans rfl; have hfz109_0 := blk_frozen BK324.out 0; have hfz109_1 := blk_frozen BK324.out 1; have hfz109_2 := blk_frozen BK324.out 2; have hfz109_3 := blk_frozen BK324.out 3; have hfz109_4 := blk_frozen BK324.out 4; obtain ⟨Ao110, co110, eo110⟩ := Kd.R_slice HO318.out; subst eo110; obtain ⟨Ao111, co111, eo111⟩ := Kd.R_slice HO321.out; subst eo111; have hnb112 := NB254_266.out; have hnc112 := NB266_254.out; have hnb113 := NB254_278.out; have hnc113 := NB278_254.out; have hcz114_0 : w103.cell? ⟨gb254, 0, none⟩ = some (.slice Ao22 t243.length co22) := (blk_cell BK254.out 0).trans rfl; have hcz114_1 : w103.cell? ⟨gb254, 1, none⟩ = some (.slice Ao25 t246.length co25) := (blk_cell BK254.out 1).trans rfl; have hcz114_2 : w103.cell? ⟨gb254, 2, none⟩ = some (.slice Ao26 t249.length co26) := (blk_cell BK254.out 2).trans rfl; have hcz114_3 : w103.cell? ⟨gb254, 3, none⟩ = some (.int .i64 t252) := (blk_cell BK254.out 3).trans rfl; have hcz114_4 : w103.cell? ⟨gb254, 4, none⟩ = some (.int .i64 t253) := (blk_cell BK254.out 4).trans rfl; have hfz114_0 := blk_frozen BK254.out 0; have hfz114_1 := blk_frozen BK254.out 1; have hfz114_2 := blk_frozen BK254.out 2; have hfz114_3 := blk_frozen BK254.out 3; have hfz114_4 := blk_frozen BK254.out 4) | ((with_reducible refine gate_callee (f := 40) rfl ?_); refine goesL_ (some 64) rfl rfl Try.func40 (by kernel_rfl) rfl #[.agg #[.slice Ao104 t313.length co104, .slice Ao110 t316.length co110, .slice Ao111 t319.length co111, .int .i64 t322, .int .i64 t323], .agg #[.slice Ao22 t243.length co22, .slice Ao25 t246.length co25, .slice Ao26 t249.length co26, .int .i64 t252, .int .i64 t253]] rfl (by (try simp only [List.map_toArray, List.map_cons, List.map_nil]); first | done | rfl | (simp only [List.length_drop, List.length_take]; rfl)) ?_; (with_reducible refine (laws_eqMemory.calls kj87 _ _ t313 _ _ t316 _ _ t319 t322 t323 _ _ t243 _ _ t246 _ _ t249 t252 t253 t325 _ ?side1 ?side2 ?side3 ?side4 ?side5 ?side6 ?side7 ?side8 ?side9 ?side10 ?side11 ?side12 A92.out).mono ?_); (case side1 => refine (Kd.R_reads' (e := 123) (base := w.heap.size) (ok := fun k_ => (((True ∧ some k_ ≠ (.slice Ao22 t243.length co22 : Value).ownBlock) ∧ some k_ ≠ (.slice Ao38 t298.length co38 : Value).ownBlock) ∧ some k_ ≠ (.slice Ao99 t302.length co99 : Value).ownBlock)) (n := t313.length) (c := co104) ?_).2.2; exact (by (with_reducible repeat (first | apply Kd.R_alloc | apply Kd.R_drewN | apply Kd.R_drew)); exact (Kd.R_mono (Kd.R_far (p := ⟨gb324, 4, none⟩) (Kd.R_far (p := ⟨gb324, 3, none⟩) (Kd.R_far (p := ⟨gb324, 2, none⟩) (Kd.R_far (p := ⟨gb324, 1, none⟩) (Kd.R_far (p := ⟨gb324, 0, none⟩) (Kd.R_types HO315.out BK324.out (by decide)) (fun _ hk => hk.2) (.slice Ao104 t313.length co104)) (fun _ hk => hk.2) (.slice Ao110 t316.length co110)) (fun _ hk => hk.2) (.slice Ao111 t319.length co111)) (fun _ hk => hk.2) (.int .i64 t322)) (fun _ hk => hk.2) (.int .i64 t323)) (fun _ h_ => h_.1)))); (case side2 => exact (Kd.R_reads' HO315.out).2.1); (case side3 => refine (Kd.R_reads' (e := 3) (base := w.heap.size) (ok := fun k_ => ((((((some k_ ≠ (.slice Ao111 t319.length co111 : Value).ownBlock ∧ some k_ ≠ (.slice Ao25 t246.length co25 : Value).ownBlock) ∧ some k_ ≠ (.slice Ao26 t249.length co26 : Value).ownBlock) ∧ some k_ ≠ (.slice Ao43 t299.length co43 : Value).ownBlock) ∧ some k_ ≠ (.slice Ao44 t300.length co44 : Value).ownBlock) ∧ some k_ ≠ (.slice Ao100 t305.length co100 : Value).ownBlock) ∧ some k_ ≠ (.slice Ao101 t308.length co101 : Value).ownBlock)) (n := t316.length) (c := co110) ?_).2.2; exact (by (with_reducible repeat (first | apply Kd.R_alloc | apply Kd.R_drewN | apply Kd.R_drew)); exact (Kd.R_mono (Kd.R_far (p := ⟨gb324, 4, none⟩) (Kd.R_far (p := ⟨gb324, 3, none⟩) (Kd.R_far (p := ⟨gb324, 2, none⟩) (Kd.R_far (p := ⟨gb324, 1, none⟩) (Kd.R_far (p := ⟨gb324, 0, none⟩) (Kd.R_types HO318.out BK324.out (by decide)) (fun _ hk => hk.2) (.slice Ao104 t313.length co104)) (fun _ hk => hk.2) (.slice Ao110 t316.length co110)) (fun _ hk => hk.2) (.slice Ao111 t319.length co111)) (fun _ hk => hk.2) (.int .i64 t322)) (fun _ hk => hk.2) (.int .i64 t323)) (fun _ h_ => h_.1)))); (case side4 => exact (Kd.R_reads' HO318.out).2.1); (case side5 => refine (Kd.R_reads' (e := 3) (base := w.heap.size) (ok := fun k_ => ((((((some k_ ≠ (.slice Ao110 t316.length co110 : Value).ownBlock ∧ some k_ ≠ (.slice Ao25 t246.length co25 : Value).ownBlock) ∧ some k_ ≠ (.slice Ao26 t249.length co26 : Value).ownBlock) ∧ some k_ ≠ (.slice Ao43 t299.length co43 : Value).ownBlock) ∧ some k_ ≠ (.slice Ao44 t300.length co44 : Value).ownBlock) ∧ some k_ ≠ (.slice Ao100 t305.length co100 : Value).ownBlock) ∧ some k_ ≠ (.slice Ao101 t308.length co101 : Value).ownBlock)) (n := t319.length) (c := co111) ?_).2.2; exact (by (with_reducible repeat (first | apply Kd.R_alloc | apply Kd.R_drewN | apply Kd.R_drew)); exact (Kd.R_mono (Kd.R_far (p := ⟨gb324, 4, none⟩) (Kd.R_far (p := ⟨gb324, 3, none⟩) (Kd.R_far (p := ⟨gb324, 2, none⟩) (Kd.R_far (p := ⟨gb324, 1, none⟩) (Kd.R_far (p := ⟨gb324, 0, none⟩) (Kd.R_types HO321.out BK324.out (by decide)) (fun _ hk => hk.2) (.slice Ao104 t313.length co104)) (fun _ hk => hk.2) (.slice Ao110 t316.length co110)) (fun _ hk => hk.2) (.slice Ao111 t319.length co111)) (fun _ hk => hk.2) (.int .i64 t322)) (fun _ hk => hk.2) (.int .i64 t323)) (fun _ h_ => h_.1)))); (case side6 => exact (Kd.R_reads' HO321.out).2.1); (case side7 => refine (Kd.R_reads' (e := 123) (base := w.heap.size) (ok := fun k_ => (((some k_ ≠ (.slice Ao30 t293.length co30 : Value).ownBlock ∧ some k_ ≠ (.slice Ao38 t298.length co38 : Value).ownBlock) ∧ some k_ ≠ (.slice Ao99 t302.length co99 : Value).ownBlock) ∧ some k_ ≠ (.slice Ao104 t313.length co104 : Value).ownBlock)) (n := t243.length) (c := co22) ?_).2.2; exact (by (with_reducible repeat (first | apply Kd.R_alloc | apply Kd.R_drewN | apply Kd.R_drew)); exact (Kd.R_mono (Kd.R_far (p := ⟨gb324, 4, none⟩) (Kd.R_far (p := ⟨gb324, 3, none⟩) (Kd.R_far (p := ⟨gb324, 2, none⟩) (Kd.R_far (p := ⟨gb324, 1, none⟩) (Kd.R_far (p := ⟨gb324, 0, none⟩) (Kd.R_types HO_255000.out BK324.out (by decide)) (fun _ hk => hk.2) (.slice Ao104 t313.length co104)) (fun _ hk => hk.2) (.slice Ao110 t316.length co110)) (fun _ hk => hk.2) (.slice Ao111 t319.length co111)) (fun _ hk => hk.2) (.int .i64 t322)) (fun _ hk => hk.2) (.int .i64 t323)) (fun _ h_ => h_.1)))); (case side8 => exact (Kd.R_reads' HO_255000.out).2.1); (case side9 => refine (Kd.R_reads' (e := 3) (base := w.heap.size) (ok := fun k_ => (((((some k_ ≠ (.slice Ao26 t249.length co26 : Value).ownBlock ∧ (some k_ ≠ (.slice Ao34 t294.length co34 : Value).ownBlock ∧ (some k_ ≠ (.slice Ao35 t295.length co35 : Value).ownBlock ∧ (some k_ ≠ (.slice Ao43 t299.length co43 : Value).ownBlock ∧ some k_ ≠ (.slice Ao44 t300.length co44 : Value).ownBlock)))) ∧ some k_ ≠ (.slice Ao100 t305.length co100 : Value).ownBlock) ∧ some k_ ≠ (.slice Ao101 t308.length co101 : Value).ownBlock) ∧ some k_ ≠ (.slice Ao110 t316.length co110 : Value).ownBlock) ∧ some k_ ≠ (.slice Ao111 t319.length co111 : Value).ownBlock)) (n := t246.length) (c := co25) ?_).2.2; exact (by (with_reducible repeat (first | apply Kd.R_alloc | apply Kd.R_drewN | apply Kd.R_drew)); exact (Kd.R_mono (Kd.R_far (p := ⟨gb324, 4, none⟩) (Kd.R_far (p := ⟨gb324, 3, none⟩) (Kd.R_far (p := ⟨gb324, 2, none⟩) (Kd.R_far (p := ⟨gb324, 1, none⟩) (Kd.R_far (p := ⟨gb324, 0, none⟩) (Kd.R_types HO_255001.out BK324.out (by decide)) (fun _ hk => hk.2) (.slice Ao104 t313.length co104)) (fun _ hk => hk.2) (.slice Ao110 t316.length co110)) (fun _ hk => hk.2) (.slice Ao111 t319.length co111)) (fun _ hk => hk.2) (.int .i64 t322)) (fun _ hk => hk.2) (.int .i64 t323)) (fun _ h_ => h_.1)))); (case side10 => exact (Kd.R_reads' HO_255001.out).2.1); (case side11 => refine (Kd.R_reads' (e := 3) (base := w.heap.size) (ok := fun k_ => (((((some k_ ≠ (.slice Ao25 t246.length co25 : Value).ownBlock ∧ (some k_ ≠ (.slice Ao34 t294.length co34 : Value).ownBlock ∧ (some k_ ≠ (.slice Ao35 t295.length co35 : Value).ownBlock ∧ (some k_ ≠ (.slice Ao43 t299.length co43 : Value).ownBlock ∧ some k_ ≠ (.slice Ao44 t300.length co44 : Value).ownBlock)))) ∧ some k_ ≠ (.slice Ao100 t305.length co100 : Value).ownBlock) ∧ some k_ ≠ (.slice Ao101 t308.length co101 : Value).ownBlock) ∧ some k_ ≠ (.slice Ao110 t316.length co110 : Value).ownBlock) ∧ some k_ ≠ (.slice Ao111 t319.length co111 : Value).ownBlock)) (n := t249.length) (c := co26) ?_).2.2; exact (by (with_reducible repeat (first | apply Kd.R_alloc | apply Kd.R_drewN | apply Kd.R_drew)); exact (Kd.R_mono (Kd.R_far (p := ⟨gb324, 4, none⟩) (Kd.R_far (p := ⟨gb324, 3, none⟩) (Kd.R_far (p := ⟨gb324, 2, none⟩) (Kd.R_far (p := ⟨gb324, 1, none⟩) (Kd.R_far (p := ⟨gb324, 0, none⟩) (Kd.R_types HO_255002.out BK324.out (by decide)) (fun _ hk => hk.2) (.slice Ao104 t313.length co104)) (fun _ hk => hk.2) (.slice Ao110 t316.length co110)) (fun _ hk => hk.2) (.slice Ao111 t319.length co111)) (fun _ hk => hk.2) (.int .i64 t322)) (fun _ hk => hk.2) (.int .i64 t323)) (fun _ h_ => h_.1)))); (case side12 => exact (Kd.R_reads' HO_255002.out).2.1); rintro e w115 ⟨rfl, hb⟩; refine ⟨_, rfl, ?_⟩; have n0_ := Aside0.mk (Kd.R_below (by (with_reducible repeat (first | apply Kd.R_alloc | apply Kd.R_drewN | apply Kd.R_drew)); exact (Kd.R_mono (Kd.R_far (p := ⟨gb324, 4, none⟩) (Kd.R_far (p := ⟨gb324, 3, none⟩) (Kd.R_far (p := ⟨gb324, 2, none⟩) (Kd.R_far (p := ⟨gb324, 1, none⟩) (Kd.R_far (p := ⟨gb324, 0, none⟩) (Kd.R_types HO_255000.out BK324.out (by decide)) (fun _ hk => hk.2) (.slice Ao104 t313.length co104)) (fun _ hk => hk.2) (.slice Ao110 t316.length co110)) (fun _ hk => hk.2) (.slice Ao111 t319.length co111)) (fun _ hk => hk.2) (.int .i64 t322)) (fun _ hk => hk.2) (.int .i64 t323)) (fun _ h_ => h_.1))) hb); have n1_ := Aside0.mk (Kd.R_below (by (with_reducible repeat (first | apply Kd.R_alloc | apply Kd.R_drewN | apply Kd.R_drew)); exact (Kd.R_mono (Kd.R_far (p := ⟨gb324, 4, none⟩) (Kd.R_far (p := ⟨gb324, 3, none⟩) (Kd.R_far (p := ⟨gb324, 2, none⟩) (Kd.R_far (p := ⟨gb324, 1, none⟩) (Kd.R_far (p := ⟨gb324, 0, none⟩) (Kd.R_types HO_255001.out BK324.out (by decide)) (fun _ hk => hk.2) (.slice Ao104 t313.length co104)) (fun _ hk => hk.2) (.slice Ao110 t316.length co110)) (fun _ hk => hk.2) (.slice Ao111 t319.length co111)) (fun _ hk => hk.2) (.int .i64 t322)) (fun _ hk => hk.2) (.int .i64 t323)) (fun _ h_ => h_.1))) hb); have n2_ := Aside0.mk (Kd.R_below (by (with_reducible repeat (first | apply Kd.R_alloc | apply Kd.R_drewN | apply Kd.R_drew)); exact (Kd.R_mono (Kd.R_far (p := ⟨gb324, 4, none⟩) (Kd.R_far (p := ⟨gb324, 3, none⟩) (Kd.R_far (p := ⟨gb324, 2, none⟩) (Kd.R_far (p := ⟨gb324, 1, none⟩) (Kd.R_far (p := ⟨gb324, 0, none⟩) (Kd.R_types HO_255002.out BK324.out (by decide)) (fun _ hk => hk.2) (.slice Ao104 t313.length co104)) (fun _ hk => hk.2) (.slice Ao110 t316.length co110)) (fun _ hk => hk.2) (.slice Ao111 t319.length co111)) (fun _ hk => hk.2) (.int .i64 t322)) (fun _ hk => hk.2) (.int .i64 t323)) (fun _ h_ => h_.1))) hb); have n3_ := Aside0.mk (Kd.R_below (by (with_reducible repeat (first | apply Kd.R_alloc | apply Kd.R_drewN | apply Kd.R_drew)); exact (Kd.R_mono (Kd.R_far (p := ⟨gb324, 4, none⟩) (Kd.R_far (p := ⟨gb324, 3, none⟩) (Kd.R_far (p := ⟨gb324, 2, none⟩) (Kd.R_far (p := ⟨gb324, 1, none⟩) (Kd.R_far (p := ⟨gb324, 0, none⟩) (Kd.R_types HO_279000.out BK324.out (by decide)) (fun _ hk => hk.2) (.slice Ao104 t313.length co104)) (fun _ hk => hk.2) (.slice Ao110 t316.length co110)) (fun _ hk => hk.2) (.slice Ao111 t319.length co111)) (fun _ hk => hk.2) (.int .i64 t322)) (fun _ hk => hk.2) (.int .i64 t323)) (fun _ h_ => h_.1))) hb); have n4_ := Aside0.mk (Kd.R_below (by (with_reducible repeat (first | apply Kd.R_alloc | apply Kd.R_drewN | apply Kd.R_drew)); exact (Kd.R_mono (Kd.R_far (p := ⟨gb324, 4, none⟩) (Kd.R_far (p := ⟨gb324, 3, none⟩) (Kd.R_far (p := ⟨gb324, 2, none⟩) (Kd.R_far (p := ⟨gb324, 1, none⟩) (Kd.R_far (p := ⟨gb324, 0, none⟩) (Kd.R_types HO_279001.out BK324.out (by decide)) (fun _ hk => hk.2) (.slice Ao104 t313.length co104)) (fun _ hk => hk.2) (.slice Ao110 t316.length co110)) (fun _ hk => hk.2) (.slice Ao111 t319.length co111)) (fun _ hk => hk.2) (.int .i64 t322)) (fun _ hk => hk.2) (.int .i64 t323)) (fun _ h_ => h_.1))) hb); have n5_ := Aside0.mk (Kd.R_below (by (with_reducible repeat (first | apply Kd.R_alloc | apply Kd.R_drewN | apply Kd.R_drew)); exact (Kd.R_mono (Kd.R_far (p := ⟨gb324, 4, none⟩) (Kd.R_far (p := ⟨gb324, 3, none⟩) (Kd.R_far (p := ⟨gb324, 2, none⟩) (Kd.R_far (p := ⟨gb324, 1, none⟩) (Kd.R_far (p := ⟨gb324, 0, none⟩) (Kd.R_types HO_279002.out BK324.out (by decide)) (fun _ hk => hk.2) (.slice Ao104 t313.length co104)) (fun _ hk => hk.2) (.slice Ao110 t316.length co110)) (fun _ hk => hk.2) (.slice Ao111 t319.length co111)) (fun _ hk => hk.2) (.int .i64 t322)) (fun _ hk => hk.2) (.int .i64 t323)) (fun _ h_ => h_.1))) hb); have n6_ := Aside0.mk (Kd.R_below (by (with_reducible repeat (first | apply Kd.R_alloc | apply Kd.R_drewN | apply Kd.R_drew)); exact (Kd.R_mono (Kd.R_far (p := ⟨gb324, 4, none⟩) (Kd.R_far (p := ⟨gb324, 3, none⟩) (Kd.R_far (p := ⟨gb324, 2, none⟩) (Kd.R_far (p := ⟨gb324, 1, none⟩) (Kd.R_far (p := ⟨gb324, 0, none⟩) (Kd.R_types HO315.out BK324.out (by decide)) (fun _ hk => hk.2) (.slice Ao104 t313.length co104)) (fun _ hk => hk.2) (.slice Ao110 t316.length co110)) (fun _ hk => hk.2) (.slice Ao111 t319.length co111)) (fun _ hk => hk.2) (.int .i64 t322)) (fun _ hk => hk.2) (.int .i64 t323)) (fun _ h_ => h_.1))) hb); have n7_ := Aside0.mk (Kd.R_below (by (with_reducible repeat (first | apply Kd.R_alloc | apply Kd.R_drewN | apply Kd.R_drew)); exact (Kd.R_mono (Kd.R_far (p := ⟨gb324, 4, none⟩) (Kd.R_far (p := ⟨gb324, 3, none⟩) (Kd.R_far (p := ⟨gb324, 2, none⟩) (Kd.R_far (p := ⟨gb324, 1, none⟩) (Kd.R_far (p := ⟨gb324, 0, none⟩) (Kd.R_types HO318.out BK324.out (by decide)) (fun _ hk => hk.2) (.slice Ao104 t313.length co104)) (fun _ hk => hk.2) (.slice Ao110 t316.length co110)) (fun _ hk => hk.2) (.slice Ao111 t319.length co111)) (fun _ hk => hk.2) (.int .i64 t322)) (fun _ hk => hk.2) (.int .i64 t323)) (fun _ h_ => h_.1))) hb); have n8_ := Aside0.mk (Kd.R_below (by (with_reducible repeat (first | apply Kd.R_alloc | apply Kd.R_drewN | apply Kd.R_drew)); exact (Kd.R_mono (Kd.R_far (p := ⟨gb324, 4, none⟩) (Kd.R_far (p := ⟨gb324, 3, none⟩) (Kd.R_far (p := ⟨gb324, 2, none⟩) (Kd.R_far (p := ⟨gb324, 1, none⟩) (Kd.R_far (p := ⟨gb324, 0, none⟩) (Kd.R_types HO321.out BK324.out (by decide)) (fun _ hk => hk.2) (.slice Ao104 t313.length co104)) (fun _ hk => hk.2) (.slice Ao110 t316.length co110)) (fun _ hk => hk.2) (.slice Ao111 t319.length co111)) (fun _ hk => hk.2) (.int .i64 t322)) (fun _ hk => hk.2) (.int .i64 t323)) (fun _ h_ => h_.1))) hb); have n9_ := Aside0.mk (blk_below (g := gb230) (o := .cells #[.slice A0_0 l0_0.length c0_0, .slice A0_1 l0_1.length c0_1, .slice A0_2 l0_2.length c0_2, .int .i64 a0_3, .int .i64 a0_4] 77 (0, 0)) (by (with_reducible repeat (first | refine blk_drewN ?_ _ | refine blk_drew ?_ | refine blk_alloc ?_ _)); refine blk_far ?_ NB230_324.out _; (with_reducible repeat (first | refine blk_drewN ?_ _ | refine blk_drew ?_ | refine blk_alloc ?_ _)); refine blk_far ?_ NB230_324.out _; (with_reducible repeat (first | refine blk_drewN ?_ _ | refine blk_drew ?_ | refine blk_alloc ?_ _)); refine blk_far ?_ NB230_324.out _; (with_reducible repeat (first | refine blk_drewN ?_ _ | refine blk_drew ?_ | refine blk_alloc ?_ _)); refine blk_far ?_ NB230_324.out _; (with_reducible repeat (first | refine blk_drewN ?_ _ | refine blk_drew ?_ | refine blk_alloc ?_ _)); refine blk_far ?_ NB230_324.out _; (with_reducible repeat (first | refine blk_drewN ?_ _ | refine blk_drew ?_ | refine blk_alloc ?_ _)); exact BK230.out) hb); have n10_ := Aside0.mk (blk_below (g := gb254) (o := .cells #[.slice Ao22 t243.length co22, .slice Ao25 t246.length co25, .slice Ao26 t249.length co26, .int .i64 t252, .int .i64 t253] 57 (0, 0)) (by (with_reducible repeat (first | refine blk_drewN ?_ _ | refine blk_drew ?_ | refine blk_alloc ?_ _)); refine blk_far ?_ NB254_324.out _; (with_reducible repeat (first | refine blk_drewN ?_ _ | refine blk_drew ?_ | refine blk_alloc ?_ _)); refine blk_far ?_ NB254_324.out _; (with_reducible repeat (first | refine blk_drewN ?_ _ | refine blk_drew ?_ | refine blk_alloc ?_ _)); refine blk_far ?_ NB254_324.out _; (with_reducible repeat (first | refine blk_drewN ?_ _ | refine blk_drew ?_ | refine blk_alloc ?_ _)); refine blk_far ?_ NB254_324.out _; (with_reducible repeat (first | refine blk_drewN ?_ _ | refine blk_drew ?_ | refine blk_alloc ?_ _)); refine blk_far ?_ NB254_324.out _; (with_reducible repeat (first | refine blk_drewN ?_ _ | refine blk_drew ?_ | refine blk_alloc ?_ _)); exact BK254.out) hb); have n11_ := Aside0.mk (blk_below (g := gb266) (o := .cells #[.slice Ao30 t293.length co30, .slice Ao34 t294.length co34, .slice Ao35 t295.length co35, .int .i64 t264, .int .i64 t265] 57 (0, 0)) (by (with_reducible repeat (first | refine blk_drewN ?_ _ | refine blk_drew ?_ | refine blk_alloc ?_ _)); refine blk_far ?_ NB266_324.out _; (with_reducible repeat (first | refine blk_drewN ?_ _ | refine blk_drew ?_ | refine blk_alloc ?_ _)); refine blk_far ?_ NB266_324.out _; (with_reducible repeat (first | refine blk_drewN ?_ _ | refine blk_drew ?_ | refine blk_alloc ?_ _)); refine blk_far ?_ NB266_324.out _; (with_reducible repeat (first | refine blk_drewN ?_ _ | refine blk_drew ?_ | refine blk_alloc ?_ _)); refine blk_far ?_ NB266_324.out _; (with_reducible repeat (first | refine blk_drewN ?_ _ | refine blk_drew ?_ | refine blk_alloc ?_ _)); refine blk_far ?_ NB266_324.out _; (with_reducible repeat (first | refine blk_drewN ?_ _ | refine blk_drew ?_ | refine blk_alloc ?_ _)); exact BK266.out) hb); have n12_ := Aside0.mk (blk_below (g := gb278) (o := .cells #[.slice Ao38 t298.length co38, .slice Ao43 t299.length co43, .slice Ao44 t300.length co44, .int .i64 t276, .int .i64 t277] 57 (0, 0)) (by (with_reducible repeat (first | refine blk_drewN ?_ _ | refine blk_drew ?_ | refine blk_alloc ?_ _)); refine blk_far ?_ NB278_324.out _; (with_reducible repeat (first | refine blk_drewN ?_ _ | refine blk_drew ?_ | refine blk_alloc ?_ _)); refine blk_far ?_ NB278_324.out _; (with_reducible repeat (first | refine blk_drewN ?_ _ | refine blk_drew ?_ | refine blk_alloc ?_ _)); refine blk_far ?_ NB278_324.out _; (with_reducible repeat (first | refine blk_drewN ?_ _ | refine blk_drew ?_ | refine blk_alloc ?_ _)); refine blk_far ?_ NB278_324.out _; (with_reducible repeat (first | refine blk_drewN ?_ _ | refine blk_drew ?_ | refine blk_alloc ?_ _)); refine blk_far ?_ NB278_324.out _; (with_reducible repeat (first | refine blk_drewN ?_ _ | refine blk_drew ?_ | refine blk_alloc ?_ _)); exact BK278.out) hb); have n13_ := Aside0.mk (blk_below (g := gb324) (o := .cells #[.slice Ao104 t313.length co104, .slice Ao110 t316.length co110, .slice Ao111 t319.length co111, .int .i64 t322, .int .i64 t323] 57 (0, 0)) (by (with_reducible repeat (first | refine blk_drewN ?_ _ | refine blk_drew ?_ | refine blk_alloc ?_ _)); refine blk_put (cs := #[.slice Ao104 t313.length co104, .slice Ao110 t316.length co110, .slice Ao111 t319.length co111, .int .i64 t322, .int .i64 0]) ?_ 4 _ rfl; (with_reducible repeat (first | refine blk_drewN ?_ _ | refine blk_drew ?_ | refine blk_alloc ?_ _)); refine blk_put (cs := #[.slice Ao104 t313.length co104, .slice Ao110 t316.length co110, .slice Ao111 t319.length co111, .int .i64 0, .int .i64 0]) ?_ 3 _ rfl; (with_reducible repeat (first | refine blk_drewN ?_ _ | refine blk_drew ?_ | refine blk_alloc ?_ _)); refine blk_put (cs := #[.slice Ao104 t313.length co104, .slice Ao110 t316.length co110, .slice none 0 0, .int .i64 0, .int .i64 0]) ?_ 2 _ rfl; (with_reducible repeat (first | refine blk_drewN ?_ _ | refine blk_drew ?_ | refine blk_alloc ?_ _)); refine blk_put (cs := #[.slice Ao104 t313.length co104, .slice none 0 0, .slice none 0 0, .int .i64 0, .int .i64 0]) ?_ 1 _ rfl; (with_reducible repeat (first | refine blk_drewN ?_ _ | refine blk_drew ?_ | refine blk_alloc ?_ _)); refine blk_put (cs := #[.slice none 0 0, .slice none 0 0, .slice none 0 0, .int .i64 0, .int .i64 0]) ?_ 0 _ rfl; (with_reducible repeat (first | refine blk_drewN ?_ _ | refine blk_drew ?_ | refine blk_alloc ?_ _)); exact BK324.out) hb); have n14_ := Aside0.mk (below_step (by repeat (first | (with_reducible first | exact HB.out | apply below_alloc | apply pw_below_drewN | apply below_drew1 | refine below_set ?_ GE230.out | refine below_set ?_ GE254.out | refine below_set ?_ GE266.out | refine below_set ?_ GE278.out | refine below_set ?_ GE324.out) | exact HB.out)) hb); clear HO_255000; clear HO_255001; clear HO_255002; clear HO_279000; clear HO_279001; clear HO_279002; clear HO315; clear HO318; clear HO321; clear BK230; clear BK254; clear BK266; clear BK278; clear BK324; clear HB; have HO_255000 := n0_; have HO_255001 := n1_; have HO_255002 := n2_; have HO_279000 := n3_; have HO_279001 := n4_; have HO_279002 := n5_; have HO315 := n6_; have HO318 := n7_; have HO321 := n8_; have BK230 := n9_; have BK254 := n10_; have BK266 := n11_; have BK278 := n12_; have BK324 := n13_; have HB := n14_; clear n0_ n1_ n2_ n3_ n4_ n5_ n6_ n7_ n8_ n9_ n10_ n11_ n12_ n13_ n14_; (try clear hb); (try clear hb2); (try clear hk); (try clear hi)))
               (try simp only [Act.put, List.setIfInBounds_toArray, List.set_cons_zero, List.set_cons_succ])
               go_cut [] (fun wc => ∃ (kq : Nat), Aside0 (laws_FnExactTold.j7 kq t297 t298 t299 t300 t276 t277 = some r) ∧ Aside0 (kq ≤ kj87) ∧ Aside0 (Kd.R k123 123 wc w.heap.size (fun _ => True) (.slice Ao38 t298.length co38) t298) ∧ Aside0 (Kd.R (Kd.int .i64) 3 wc w.heap.size (fun k_ => some k_ ≠ ((.slice Ao44 t300.length co44) : Value).ownBlock) (.slice Ao43 t299.length co43) t299) ∧ Aside0 (Kd.R (Kd.int .i64) 3 wc w.heap.size (fun k_ => some k_ ≠ ((.slice Ao43 t299.length co43) : Value).ownBlock) (.slice Ao44 t300.length co44) t300) ∧ Aside0 (wc.heap[gb278]? = some (.cells #[(.slice Ao38 t298.length co38), (.slice Ao43 t299.length co43), (.slice Ao44 t300.length co44), .int .i64 t276, .int .i64 t277] 57 (0, 0))) ∧ Aside0 (Below w.heap.size w wc))
               case first =>
                have H := HC93.out
                clear HC93
                by_cases c116 : t325 = true
                ·
                 subst c116
                 have H1 : (laws_FnExactTold.j7 kj87 t297 t298 t299 t300 t276 t277) = some r := by rw [if_pos rfl] at H; exact H
                 clear H
                 have H := H1
                 clear H1
                 have H' := Aside0.mk H
                 clear H
                 go_wp2
                 go_meet
                 case rel => exact ⟨_, H', ⟨by have := HJ3.out; have := HJ13.out; have := HJ49.out; have := HJ58.out; have := HJ74.out; have := HJ78.out; have := HJ87.out; first | omega | exact Nat.le_refl _⟩, ⟨by (try simp only [hl267000_58]); (try simp only [hl267001_58]); (try simp only [hl267002_58]); (try simp only [hl279000_78]); (try simp only [hl279001_78]); (try simp only [hl279002_78]); (with_reducible repeat (first | apply Kd.R_alloc | apply Kd.R_drewN | apply Kd.R_drew)); exact Kd.R_mono HO_279000.out (fun _ hk => trivial)⟩, ⟨by (try simp only [hl267000_58]); (try simp only [hl267001_58]); (try simp only [hl267002_58]); (try simp only [hl279000_78]); (try simp only [hl279001_78]); (try simp only [hl279002_78]); (with_reducible repeat (first | apply Kd.R_alloc | apply Kd.R_drewN | apply Kd.R_drew)); exact Kd.R_mono HO_279001.out (fun _ hk => hk.1.1.1.1.2.2.2.2)⟩, ⟨by (try simp only [hl267000_58]); (try simp only [hl267001_58]); (try simp only [hl267002_58]); (try simp only [hl279000_78]); (try simp only [hl279001_78]); (try simp only [hl279002_78]); (with_reducible repeat (first | apply Kd.R_alloc | apply Kd.R_drewN | apply Kd.R_drew)); exact Kd.R_mono HO_279002.out (fun _ hk => hk.1.1.1.1.2.2.2.2)⟩, ⟨by (try simp only [hl267000_58]); (try simp only [hl267001_58]); (try simp only [hl267002_58]); (try simp only [hl279000_78]); (try simp only [hl279001_78]); (try simp only [hl279002_78]); (with_reducible repeat (first | refine blk_drewN ?_ _ | refine blk_drew ?_ | refine blk_alloc ?_ _)); exact BK278.out⟩, ⟨by repeat (first | (with_reducible first | exact HB.out | apply below_alloc | apply pw_below_drewN | apply below_drew1 | refine below_set ?_ GE230.out | refine below_set ?_ GE254.out | refine below_set ?_ GE266.out | refine below_set ?_ GE278.out | refine below_set ?_ GE324.out) | exact HB.out)⟩⟩
                ·
                 replace c116 := Bool.eq_false_iff.mpr c116
                 subst c116
                 have H1 : (some false) = some r := by rw [if_neg (show ¬ (false = true) by decide)] at H; exact H
                 clear H
                 have H := H1
                 clear H1
                 obtain rfl := Option.some.inj H
                 go_wp2
                 go_ret
                 exact ⟨by first | rfl | (simp [errW_none, errW_some] <;> rfl) | (simp [*, errW_none, errW_some] <;> rfl), by repeat (first | (with_reducible first | exact HB.out | apply below_alloc | apply pw_below_drewN | apply below_drew1 | refine below_set ?_ GE230.out | refine below_set ?_ GE254.out | refine below_set ?_ GE266.out | refine below_set ?_ GE278.out | refine below_set ?_ GE324.out) | exact HB.out)⟩
               case rest =>
                clear HC93
                try clear c1
                try clear c2
                try clear p2
                try clear c3
                try clear c4
                try clear c5
                try clear c6
                try clear c7
                try clear c8
                try clear c8b0
                try clear c9
                try clear c10
                try clear c11
                try clear c23
                try clear c31
                try clear c32
                try clear c39
                try clear c40
                try clear c41
                try clear c43
                try clear c44
                try clear c47
                try clear c51
                try clear c52
                try clear c53
                try clear c54
                try clear c57
                try clear c60
                try clear c61
                try clear c62
                try clear c65
                try clear c65b0
                try clear c67
                try clear c68
                try clear c69
                try clear c71
                try clear c72
                try clear c76
                try clear c80
                try clear c81
                try clear c82
                try clear c87
                try clear c87b0
                try clear c89
                try clear c89b0
                try clear c89b1
                try clear c94
                try clear c95
                try clear c96
                try clear c105
                try clear c106
                try clear c107
                try clear c108
                try clear c112
                try clear c113
                try clear c116
                try clear hcz109_0
                try clear hcz109_1
                try clear hcz109_2
                try clear hcz109_3
                try clear hcz109_4
                try clear hcz114_0
                try clear hcz114_1
                try clear hcz114_2
                try clear hcz114_3
                try clear hcz114_4
                try clear hcz15_0
                try clear hcz15_1
                try clear hcz15_2
                try clear hcz15_3
                try clear hcz15_4
                try clear hcz24_0
                try clear hcz24_1
                try clear hcz24_2
                try clear hcz24_3
                try clear hcz24_4
                try clear hcz27_0
                try clear hcz27_1
                try clear hcz27_2
                try clear hcz27_3
                try clear hcz27_4
                try clear hcz33_0
                try clear hcz33_1
                try clear hcz33_2
                try clear hcz33_3
                try clear hcz33_4
                try clear hcz42_0
                try clear hcz42_1
                try clear hcz42_2
                try clear hcz42_3
                try clear hcz42_4
                try clear hcz45_0
                try clear hcz45_1
                try clear hcz45_2
                try clear hcz45_3
                try clear hcz45_4
                try clear hcz63_0
                try clear hcz63_1
                try clear hcz63_2
                try clear hcz63_3
                try clear hcz63_4
                try clear hcz6_0
                try clear hcz6_1
                try clear hcz6_2
                try clear hcz6_3
                try clear hcz6_4
                try clear hcz70_0
                try clear hcz70_1
                try clear hcz70_2
                try clear hcz70_3
                try clear hcz70_4
                try clear hcz73_0
                try clear hcz73_1
                try clear hcz73_2
                try clear hcz73_3
                try clear hcz73_4
                try clear hcz83_0
                try clear hcz83_1
                try clear hcz83_2
                try clear hcz83_3
                try clear hcz83_4
                try clear hcz85_0
                try clear hcz85_1
                try clear hcz85_2
                try clear hcz85_3
                try clear hcz85_4
                try clear hcz97_0
                try clear hcz97_1
                try clear hcz97_2
                try clear hcz97_3
                try clear hcz97_4
                try clear hfz109_0
                try clear hfz109_1
                try clear hfz109_2
                try clear hfz109_3
                try clear hfz109_4
                try clear hfz114_0
                try clear hfz114_1
                try clear hfz114_2
                try clear hfz114_3
                try clear hfz114_4
                try clear hfz15_0
                try clear hfz15_1
                try clear hfz15_2
                try clear hfz15_3
                try clear hfz15_4
                try clear hfz24_0
                try clear hfz24_1
                try clear hfz24_2
                try clear hfz24_3
                try clear hfz24_4
                try clear hfz27_0
                try clear hfz27_1
                try clear hfz27_2
                try clear hfz27_3
                try clear hfz27_4
                try clear hfz33_0
                try clear hfz33_1
                try clear hfz33_2
                try clear hfz33_3
                try clear hfz33_4
                try clear hfz42_0
                try clear hfz42_1
                try clear hfz42_2
                try clear hfz42_3
                try clear hfz42_4
                try clear hfz45_0
                try clear hfz45_1
                try clear hfz45_2
                try clear hfz45_3
                try clear hfz45_4
                try clear hfz63_0
                try clear hfz63_1
                try clear hfz63_2
                try clear hfz63_3
                try clear hfz63_4
                try clear hfz6_0
                try clear hfz6_1
                try clear hfz6_2
                try clear hfz6_3
                try clear hfz6_4
                try clear hfz70_0
                try clear hfz70_1
                try clear hfz70_2
                try clear hfz70_3
                try clear hfz70_4
                try clear hfz73_0
                try clear hfz73_1
                try clear hfz73_2
                try clear hfz73_3
                try clear hfz73_4
                try clear hfz83_0
                try clear hfz83_1
                try clear hfz83_2
                try clear hfz83_3
                try clear hfz83_4
                try clear hfz85_0
                try clear hfz85_1
                try clear hfz85_2
                try clear hfz85_3
                try clear hfz85_4
                try clear hfz97_0
                try clear hfz97_1
                try clear hfz97_2
                try clear hfz97_3
                try clear hfz97_4
                try clear p2
                obtain ⟨kq, HA, HJ92, HO_279000, HO_279001, HO_279002, BK278, HB⟩ := hcut
                cases kq with
                | zero => exact absurd HA.out (by simp [laws_FnExactTold.j7])
                | succ kj92 =>
                 have H := HA.out
                 clear HA
                 simp only [laws_FnExactTold.j7] at H
                 replace H := Option.bind_eq_some_iff.mp H
                 obtain ⟨t326, A1170, H⟩ := H
                 replace H : (if t326 < 0 then (some false) else (if t326 = t297 then (some true) else (some false))) = some r := H
                 have A117 := Aside0.mk A1170
                 clear A1170
                 by_cases c118 : t326 < 0
                 ·
                  rw [if_pos c118] at H
                  have c118b0 : decide (t326 < 0) = true := decide_eq_true c118
                  clear c118
                  obtain rfl := Option.some.inj H
                  have hcz119_0 : wc.cell? ⟨gb278, 0, none⟩ = some (.slice Ao38 t298.length co38) := (blk_cell BK278.out 0).trans rfl
                  have hcz119_1 : wc.cell? ⟨gb278, 1, none⟩ = some (.slice Ao43 t299.length co43) := (blk_cell BK278.out 1).trans rfl
                  have hcz119_2 : wc.cell? ⟨gb278, 2, none⟩ = some (.slice Ao44 t300.length co44) := (blk_cell BK278.out 2).trans rfl
                  have hcz119_3 : wc.cell? ⟨gb278, 3, none⟩ = some (.int .i64 t276) := (blk_cell BK278.out 3).trans rfl
                  have hcz119_4 : wc.cell? ⟨gb278, 4, none⟩ = some (.int .i64 t277) := (blk_cell BK278.out 4).trans rfl
                  have hfz119_0 := blk_frozen BK278.out 0
                  have hfz119_1 := blk_frozen BK278.out 1
                  have hfz119_2 := blk_frozen BK278.out 2
                  have hfz119_3 := blk_frozen BK278.out 3
                  have hfz119_4 := blk_frozen BK278.out 4
                  go_wp2_with (first | ((with_reducible refine gate_callee (f := 44) rfl ?_); refine goesL_ (some 68) rfl rfl Try.func44 (by kernel_rfl) rfl #[.agg #[.slice Ao38 t298.length co38, .slice Ao43 t299.length co43, .slice Ao44 t300.length co44, .int .i64 t276, .int .i64 t277], .int .i64 1] rfl (by (try simp only [List.map_toArray, List.map_cons, List.map_nil]); first | done | rfl | (simp only [List.length_drop, List.length_take]; rfl)) ?_; (with_reducible refine (laws_heldMemory.calls kj92 _ _ t298 _ _ t299 _ _ t300 t276 t277 1 t326 _ ?side1 ?side2 ?side3 ?side4 ?side5 ?side6 A117.out).mono ?_); (case side1 => repeat (first | exact (Kd.R_reads' HO_279000.out).2.2 | (with_reducible refine Kd.C_alloc ?_ _) | (with_reducible refine Kd.C_drewN ?_ _) | (with_reducible refine Kd.C_drew ?_))); (case side2 => exact (Kd.R_reads' HO_279000.out).2.1); (case side3 => repeat (first | exact (Kd.R_reads' HO_279001.out).2.2 | (with_reducible refine Kd.C_alloc ?_ _) | (with_reducible refine Kd.C_drewN ?_ _) | (with_reducible refine Kd.C_drew ?_))); (case side4 => exact (Kd.R_reads' HO_279001.out).2.1); (case side5 => repeat (first | exact (Kd.R_reads' HO_279002.out).2.2 | (with_reducible refine Kd.C_alloc ?_ _) | (with_reducible refine Kd.C_drewN ?_ _) | (with_reducible refine Kd.C_drew ?_))); (case side6 => exact (Kd.R_reads' HO_279002.out).2.1); rintro e w120 ⟨rfl, hb⟩; refine ⟨_, rfl, ?_⟩; have n0_ := Aside0.mk (Kd.R_below (by (with_reducible repeat (first | apply Kd.R_alloc | apply Kd.R_drewN | apply Kd.R_drew)); exact HO_279000.out) hb); have n1_ := Aside0.mk (Kd.R_below (by (with_reducible repeat (first | apply Kd.R_alloc | apply Kd.R_drewN | apply Kd.R_drew)); exact HO_279001.out) hb); have n2_ := Aside0.mk (Kd.R_below (by (with_reducible repeat (first | apply Kd.R_alloc | apply Kd.R_drewN | apply Kd.R_drew)); exact HO_279002.out) hb); have n3_ := Aside0.mk (below_step (by repeat (first | (with_reducible first | exact HB.out | apply below_alloc | apply pw_below_drewN | apply below_drew1) | exact HB.out)) hb); clear HO_279000; clear HO_279001; clear HO_279002; clear HB; have HO_279000 := n0_; have HO_279001 := n1_; have HO_279002 := n2_; have HB := n3_; clear n0_ n1_ n2_ n3_; (try clear hb); (try clear hb2); (try clear hk); (try clear hi)))
                  go_ret
                  exact ⟨by first | rfl | (simp [errW_none, errW_some] <;> rfl) | (simp [*, errW_none, errW_some] <;> rfl), by repeat (first | (with_reducible first | exact HB.out | apply below_alloc | apply pw_below_drewN | apply below_drew1) | exact HB.out)⟩
                 ·
                  rw [if_neg c118] at H
                  have c118b0 : decide (t326 < 0) = false := decide_eq_false c118
                  clear c118
                  by_cases c121 : t326 = t297
                  ·
                   rw [if_pos c121] at H
                   have c121b0 : (t326 == t297) = true := beq_iff_eq.mpr c121
                   have c121b1 : (t326 != t297) = false := bne_eq_false_iff_eq.mpr c121
                   clear c121
                   obtain rfl := Option.some.inj H
                   have hcz122_0 : wc.cell? ⟨gb278, 0, none⟩ = some (.slice Ao38 t298.length co38) := (blk_cell BK278.out 0).trans rfl
                   have hcz122_1 : wc.cell? ⟨gb278, 1, none⟩ = some (.slice Ao43 t299.length co43) := (blk_cell BK278.out 1).trans rfl
                   have hcz122_2 : wc.cell? ⟨gb278, 2, none⟩ = some (.slice Ao44 t300.length co44) := (blk_cell BK278.out 2).trans rfl
                   have hcz122_3 : wc.cell? ⟨gb278, 3, none⟩ = some (.int .i64 t276) := (blk_cell BK278.out 3).trans rfl
                   have hcz122_4 : wc.cell? ⟨gb278, 4, none⟩ = some (.int .i64 t277) := (blk_cell BK278.out 4).trans rfl
                   have hfz122_0 := blk_frozen BK278.out 0
                   have hfz122_1 := blk_frozen BK278.out 1
                   have hfz122_2 := blk_frozen BK278.out 2
                   have hfz122_3 := blk_frozen BK278.out 3
                   have hfz122_4 := blk_frozen BK278.out 4
                   go_wp2_with (first | ((with_reducible refine gate_callee (f := 44) rfl ?_); refine goesL_ (some 68) rfl rfl Try.func44 (by kernel_rfl) rfl #[.agg #[.slice Ao38 t298.length co38, .slice Ao43 t299.length co43, .slice Ao44 t300.length co44, .int .i64 t276, .int .i64 t277], .int .i64 1] rfl (by (try simp only [List.map_toArray, List.map_cons, List.map_nil]); first | done | rfl | (simp only [List.length_drop, List.length_take]; rfl)) ?_; (with_reducible refine (laws_heldMemory.calls kj92 _ _ t298 _ _ t299 _ _ t300 t276 t277 1 t326 _ ?side1 ?side2 ?side3 ?side4 ?side5 ?side6 A117.out).mono ?_); (case side1 => repeat (first | exact (Kd.R_reads' HO_279000.out).2.2 | (with_reducible refine Kd.C_alloc ?_ _) | (with_reducible refine Kd.C_drewN ?_ _) | (with_reducible refine Kd.C_drew ?_))); (case side2 => exact (Kd.R_reads' HO_279000.out).2.1); (case side3 => repeat (first | exact (Kd.R_reads' HO_279001.out).2.2 | (with_reducible refine Kd.C_alloc ?_ _) | (with_reducible refine Kd.C_drewN ?_ _) | (with_reducible refine Kd.C_drew ?_))); (case side4 => exact (Kd.R_reads' HO_279001.out).2.1); (case side5 => repeat (first | exact (Kd.R_reads' HO_279002.out).2.2 | (with_reducible refine Kd.C_alloc ?_ _) | (with_reducible refine Kd.C_drewN ?_ _) | (with_reducible refine Kd.C_drew ?_))); (case side6 => exact (Kd.R_reads' HO_279002.out).2.1); rintro e w123 ⟨rfl, hb⟩; refine ⟨_, rfl, ?_⟩; have n0_ := Aside0.mk (Kd.R_below (by (with_reducible repeat (first | apply Kd.R_alloc | apply Kd.R_drewN | apply Kd.R_drew)); exact HO_279000.out) hb); have n1_ := Aside0.mk (Kd.R_below (by (with_reducible repeat (first | apply Kd.R_alloc | apply Kd.R_drewN | apply Kd.R_drew)); exact HO_279001.out) hb); have n2_ := Aside0.mk (Kd.R_below (by (with_reducible repeat (first | apply Kd.R_alloc | apply Kd.R_drewN | apply Kd.R_drew)); exact HO_279002.out) hb); have n3_ := Aside0.mk (below_step (by repeat (first | (with_reducible first | exact HB.out | apply below_alloc | apply pw_below_drewN | apply below_drew1) | exact HB.out)) hb); clear HO_279000; clear HO_279001; clear HO_279002; clear HB; have HO_279000 := n0_; have HO_279001 := n1_; have HO_279002 := n2_; have HB := n3_; clear n0_ n1_ n2_ n3_; (try clear hb); (try clear hb2); (try clear hk); (try clear hi)))
                   go_ret
                   exact ⟨by first | rfl | (simp [errW_none, errW_some] <;> rfl) | (simp [*, errW_none, errW_some] <;> rfl), by repeat (first | (with_reducible first | exact HB.out | apply below_alloc | apply pw_below_drewN | apply below_drew1) | exact HB.out)⟩
                  ·
                   rw [if_neg c121] at H
                   have c121b0 : (t326 == t297) = false := beq_eq_false_iff_ne.mpr c121
                   have c121b1 : (t326 != t297) = true := bne_iff_ne.mpr c121
                   obtain rfl := Option.some.inj H
                   have hcz124_0 : wc.cell? ⟨gb278, 0, none⟩ = some (.slice Ao38 t298.length co38) := (blk_cell BK278.out 0).trans rfl
                   have hcz124_1 : wc.cell? ⟨gb278, 1, none⟩ = some (.slice Ao43 t299.length co43) := (blk_cell BK278.out 1).trans rfl
                   have hcz124_2 : wc.cell? ⟨gb278, 2, none⟩ = some (.slice Ao44 t300.length co44) := (blk_cell BK278.out 2).trans rfl
                   have hcz124_3 : wc.cell? ⟨gb278, 3, none⟩ = some (.int .i64 t276) := (blk_cell BK278.out 3).trans rfl
                   have hcz124_4 : wc.cell? ⟨gb278, 4, none⟩ = some (.int .i64 t277) := (blk_cell BK278.out 4).trans rfl
                   have hfz124_0 := blk_frozen BK278.out 0
                   have hfz124_1 := blk_frozen BK278.out 1
                   have hfz124_2 := blk_frozen BK278.out 2
                   have hfz124_3 := blk_frozen BK278.out 3
                   have hfz124_4 := blk_frozen BK278.out 4
                   go_wp2_with (first | ((with_reducible refine gate_callee (f := 44) rfl ?_); refine goesL_ (some 68) rfl rfl Try.func44 (by kernel_rfl) rfl #[.agg #[.slice Ao38 t298.length co38, .slice Ao43 t299.length co43, .slice Ao44 t300.length co44, .int .i64 t276, .int .i64 t277], .int .i64 1] rfl (by (try simp only [List.map_toArray, List.map_cons, List.map_nil]); first | done | rfl | (simp only [List.length_drop, List.length_take]; rfl)) ?_; (with_reducible refine (laws_heldMemory.calls kj92 _ _ t298 _ _ t299 _ _ t300 t276 t277 1 t326 _ ?side1 ?side2 ?side3 ?side4 ?side5 ?side6 A117.out).mono ?_); (case side1 => repeat (first | exact (Kd.R_reads' HO_279000.out).2.2 | (with_reducible refine Kd.C_alloc ?_ _) | (with_reducible refine Kd.C_drewN ?_ _) | (with_reducible refine Kd.C_drew ?_))); (case side2 => exact (Kd.R_reads' HO_279000.out).2.1); (case side3 => repeat (first | exact (Kd.R_reads' HO_279001.out).2.2 | (with_reducible refine Kd.C_alloc ?_ _) | (with_reducible refine Kd.C_drewN ?_ _) | (with_reducible refine Kd.C_drew ?_))); (case side4 => exact (Kd.R_reads' HO_279001.out).2.1); (case side5 => repeat (first | exact (Kd.R_reads' HO_279002.out).2.2 | (with_reducible refine Kd.C_alloc ?_ _) | (with_reducible refine Kd.C_drewN ?_ _) | (with_reducible refine Kd.C_drew ?_))); (case side6 => exact (Kd.R_reads' HO_279002.out).2.1); rintro e w125 ⟨rfl, hb⟩; refine ⟨_, rfl, ?_⟩; have n0_ := Aside0.mk (Kd.R_below (by (with_reducible repeat (first | apply Kd.R_alloc | apply Kd.R_drewN | apply Kd.R_drew)); exact HO_279000.out) hb); have n1_ := Aside0.mk (Kd.R_below (by (with_reducible repeat (first | apply Kd.R_alloc | apply Kd.R_drewN | apply Kd.R_drew)); exact HO_279001.out) hb); have n2_ := Aside0.mk (Kd.R_below (by (with_reducible repeat (first | apply Kd.R_alloc | apply Kd.R_drewN | apply Kd.R_drew)); exact HO_279002.out) hb); have n3_ := Aside0.mk (below_step (by repeat (first | (with_reducible first | exact HB.out | apply below_alloc | apply pw_below_drewN | apply below_drew1) | exact HB.out)) hb); clear HO_279000; clear HO_279001; clear HO_279002; clear HB; have HO_279000 := n0_; have HO_279001 := n1_; have HO_279002 := n2_; have HB := n3_; clear n0_ n1_ n2_ n3_; (try clear hb); (try clear hb2); (try clear hk); (try clear hi)))
                   go_ret
                   exact ⟨by first | rfl | (simp [errW_none, errW_some] <;> rfl) | (simp [*, errW_none, errW_some] <;> rfl), by repeat (first | (with_reducible first | exact HB.out | apply below_alloc | apply pw_below_drewN | apply below_drew1) | exact HB.out)⟩

end Go.Proofs.Ytaoelobgpilmjaa.PFnExactTold
