/- Written by a program of this session (a turned copy of the kit's print): a contract for each Go function. No condition beside those in each statement. -/
import Derived.Test.YtmdpggibcjkfoaaDoorPFnExactSameProgramx0
import Derived.Test.YtmdpggibcjkfoaaDoorPFnExactSameProgramx1
import Derived.Test.YtmdpggibcjkfoaaDoorPFnExactSameProgramx13
import Derived.Test.YtmdpggibcjkfoaaDoorPFnExactSameProgramx14
namespace Go.Proofs.YtmdpggibcjkfoaaDoor.PFnExactSameProgram
open Go.RowKit Go.Proofs.YtmdpggibcjkfoaaDoor.Given Go.Proofs.YtmdpggibcjkfoaaDoorW.PrintWords Go.Proofs.YtmdpggibcjkfoaaDoorW.PrintLast Go.Proofs.YtmdpggibcjkfoaaDoorW.PrintMore
attribute [local go_sem] max2_int min2_int max_two min_two max_three min_three max_four min_four   -- for this text's walks alone
set_option linter.unusedVariables false
set_option linter.unusedSimpArgs false

attribute [local go_sem high] eqA95
/-! ### impl_SameTree: function 32 -/
def impl_SameTree.f (k : Nat) (l0_0 : List (S64)) (l0_1 : List (S93)) (a1 : Int) (l2_0 : List (S64)) (l2_1 : List (S93)) (a3 : Int) : Option (Bool) := (impl_DeepOf.f k l0_0 a1).bind fun t334 => (if t334 > 0 then ((impl_DeepOf.f k l2_0 a3).bind fun t335 => (if t335 > 0 then ((impl_sameTree.f k l0_0 l0_1 a1 l2_0 l2_1 a3).bind fun t336 => (some t336)) else (some false))) else (some false))
theorem impl_SameTree.mono : ∀ a0 a1 a2 a3 a4 a5 k, LeO (impl_SameTree.f k a0 a1 a2 a3 a4 a5) (impl_SameTree.f (k + 1) a0 a1 a2 a3 a4 a5) := by
 intro a0 a1 a2 a3 a4 a5 k
 unfold impl_SameTree.f
 with_reducible repeat' first | exact impl_DeepOf.mono _ _ _ | exact impl_sameTree.mono _ _ _ _ _ _ _ | exact LeO.refl _ | exact LeO.none _ | refine LeO.ite ?_ ?_ | refine LeO.bind ?_ (fun _ => ?_)
set_option maxHeartbeats 8000000 in
set_option maxRecDepth 100000 in
theorem impl_SameTree.calls (k : Nat) (A0_0 : Option Addr) (c0_0 : Nat) (l0_0 : List (S64)) (A0_1 : Option Addr) (c0_1 : Nat) (l0_1 : List (S93)) (a1 : Int) (A2_0 : Option Addr) (c2_0 : Nat) (l2_0 : List (S64)) (A2_1 : Option Addr) (c2_1 : Nat) (l2_1 : List (S93)) (a3 : Int) (r : Bool) (w : World) (hr0_0 : Kd.C k64 w A0_0 l0_0.length l0_0) (hc0_0 : l0_0.length ≤ c0_0) (hr0_1 : Kd.C k93 w A0_1 l0_1.length l0_1) (hc0_1 : l0_1.length ≤ c0_1) (hr2_0 : Kd.C k64 w A2_0 l2_0.length l2_0) (hc2_0 : l2_0.length ≤ c2_0) (hr2_1 : Kd.C k93 w A2_1 l2_1.length l2_1) (hc2_1 : l2_1.length ≤ c2_1) (h : impl_SameTree.f k l0_0 l0_1 a1 l2_0 l2_1 a3 = some r) :
  Calls Tryd.prog 32 #[.agg #[.slice A0_0 l0_0.length c0_0, .slice A0_1 l0_1.length c0_1], .int .i64 a1, .agg #[.slice A2_0 l2_0.length c2_0, .slice A2_1 l2_1.length c2_1], .int .i64 a3] w fun e w' => e = .returned (.bool r) ∧ Below w.heap.size w w' := by
 have hu52 := Tryd.underlying52
 have HR0_0 := As.mk hr0_0
 have HC0_0 := As.mk hc0_0
 clear hr0_0 hc0_0
 have HR0_1 := As.mk hr0_1
 have HC0_1 := As.mk hc0_1
 clear hr0_1 hc0_1
 have HR2_0 := As.mk hr2_0
 have HC2_0 := As.mk hc2_0
 clear hr2_0 hc2_0
 have HR2_1 := As.mk hr2_1
 have HC2_1 := As.mk hc2_1
 clear hr2_1 hc2_1
 have HB := As.mk (Below.refl w.heap.size w)
 have H : ((impl_DeepOf.f k l0_0 a1).bind fun t334 => (if t334 > 0 then ((impl_DeepOf.f k l2_0 a3).bind fun t335 => (if t335 > 0 then ((impl_sameTree.f k l0_0 l0_1 a1 l2_0 l2_1 a3).bind fun t336 => (some t336)) else (some false))) else (some false))) = some r := h
 clear h
 obtain ⟨t334, A50, H⟩ := Option.bind_eq_some_iff.mp H
 try dsimp only at H
 have A5 := As.mk A50
 clear A50
 by_cases c6 : t334 > 0
 rotate_left
 ·
  rw [if_neg c6] at H
  have c6b0 : decide (0 < t334) = false := decide_eq_false c6
  clear c6
  obtain rfl := Option.some.inj H
  go_enter Tryd.func32, Tryd.ntmps32
  go_wp2_with (first | ((with_reducible refine gate_dst (N := 4) rfl ?_); refine box_event ?hg (N := 4) ?hd (cs := #[.slice A0_0 l0_0.length c0_0, .slice A0_1 l0_1.length c0_1]) (t := 52) ?hr ?_; (case hd => rfl); (case hg => rfl); (case hr => first | (go_simp; done) | (go_simp; rfl)); intro gb332 hg w27 hbox hb; have BK332 := As.mk (hbox); have GW332 := As.mk (gs w hg); have GE332 := As.mk (gs w hg); replace HB := As.mk (below_step (be w) hb); clear hb hbox hg) | ((with_reducible refine gate_dst (N := 6) rfl ?_); refine box_event ?hg (N := 6) ?hd (cs := #[.slice A2_0 l2_0.length c2_0, .slice A2_1 l2_1.length c2_1]) (t := 52) ?hr ?_; (case hd => rfl); (case hg => rfl); (case hr => first | (go_simp; done) | (go_simp; rfl)); intro gb333 hg w28 hbox hb; have BK333 := As.mk (hbox); have GW333 := As.mk (gs w hg); have GE333 := As.mk (gs w hg); replace HB := As.mk (below_step (be w) hb); have NB332_333 := As.mk (nl hg (bx BK332.out)); have NB333_332 := As.mk (ng hg (bx BK332.out)); replace BK332 := As.mk (blk_below (bx BK332.out) hb); clear hb hbox hg; obtain ⟨hcz29_0, hcz29_1, hfz29_0, hfz29_1⟩ := cl2 BK332.out) | ((with_reducible refine gate_callee (f := 18) rfl ?_); refine goesL_ (some 12) rfl rfl Tryd.func18 (by kernel_rfl) rfl #[.slice A0_0 l0_0.length c0_0, .int .i64 a1] rfl (by (try simp only [lm]); first | done | rfl | (simp only [List.length_drop, List.length_take]; rfl)) ?_; (with_reducible refine (impl_DeepOf.calls k _ _ l0_0 a1 t334 _ ?side1 ?side2 A5.out).mono ?_); (case side1 => exact Kd.C_below HR0_0.out (be w)); (case side2 => exact HC0_0.out); rintro e w30 ⟨rfl, hb⟩; refine ⟨_, rfl, ?_⟩; replace HB := As.mk (below_step (be w) hb); (try clear hb); (try clear hb2); (try clear hk); (try clear hi)))
  go_ret
  exact ⟨by first | rfl | (simp [errW_none, errW_some] <;> rfl) | (simp [*, errW_none, errW_some] <;> rfl), be w⟩

 rw [if_pos c6] at H
 have c6b0 : decide (0 < t334) = true := decide_eq_true c6
 clear c6
 obtain ⟨t335, A70, H⟩ := Option.bind_eq_some_iff.mp H
 try dsimp only at H
 have A7 := As.mk A70
 clear A70
 by_cases c8 : t335 > 0
 rotate_left
 ·
  rw [if_neg c8] at H
  have c8b0 : decide (0 < t335) = false := decide_eq_false c8
  clear c8
  obtain rfl := Option.some.inj H
  go_enter Tryd.func32, Tryd.ntmps32
  go_wp2_with (first | ((with_reducible refine gate_dst (N := 4) rfl ?_); refine box_event ?hg (N := 4) ?hd (cs := #[.slice A0_0 l0_0.length c0_0, .slice A0_1 l0_1.length c0_1]) (t := 52) ?hr ?_; (case hd => rfl); (case hg => rfl); (case hr => first | (go_simp; done) | (go_simp; rfl)); intro gb332 hg w20 hbox hb; have BK332 := As.mk (hbox); have GW332 := As.mk (gs w hg); have GE332 := As.mk (gs w hg); replace HB := As.mk (below_step (be w) hb); clear hb hbox hg) | ((with_reducible refine gate_dst (N := 6) rfl ?_); refine box_event ?hg (N := 6) ?hd (cs := #[.slice A2_0 l2_0.length c2_0, .slice A2_1 l2_1.length c2_1]) (t := 52) ?hr ?_; (case hd => rfl); (case hg => rfl); (case hr => first | (go_simp; done) | (go_simp; rfl)); intro gb333 hg w21 hbox hb; have BK333 := As.mk (hbox); have GW333 := As.mk (gs w hg); have GE333 := As.mk (gs w hg); replace HB := As.mk (below_step (be w) hb); have NB332_333 := As.mk (nl hg (bx BK332.out)); have NB333_332 := As.mk (ng hg (bx BK332.out)); replace BK332 := As.mk (blk_below (bx BK332.out) hb); clear hb hbox hg; have hnb22 := NB332_333.out; have hnc22 := NB333_332.out; obtain ⟨hcz23_0, hcz23_1, hfz23_0, hfz23_1⟩ := cl2 BK332.out) | ((with_reducible refine gate_callee (f := 18) rfl ?_); refine goesL_ (some 12) rfl rfl Tryd.func18 (by kernel_rfl) rfl #[.slice A0_0 l0_0.length c0_0, .int .i64 a1] rfl (by (try simp only [lm]); first | done | rfl | (simp only [List.length_drop, List.length_take]; rfl)) ?_; (with_reducible refine (impl_DeepOf.calls k _ _ l0_0 a1 t334 _ ?side1 ?side2 A5.out).mono ?_); (case side1 => exact Kd.C_below HR0_0.out (be w)); (case side2 => exact HC0_0.out); rintro e w24 ⟨rfl, hb⟩; refine ⟨_, rfl, ?_⟩; replace BK333 := As.mk (blk_below (bx BK333.out) hb); replace HB := As.mk (below_step (be w) hb); (try clear hb); (try clear hb2); (try clear hk); (try clear hi); obtain ⟨hcz25_0, hcz25_1, hfz25_0, hfz25_1⟩ := cl2 BK333.out) | (go_at_call 18; (with_reducible refine (impl_DeepOf.calls k _ _ l2_0 a3 t335 _ ?side1 ?side2 A7.out).mono ?_); (case side1 => exact Kd.C_below HR2_0.out (be w)); (case side2 => exact HC2_0.out); rintro e w26 ⟨rfl, hb⟩; replace HB := As.mk (below_step (be w) hb); (try clear hb); (try clear hb2); (try clear hk); (try clear hi)))
  go_ret
  exact ⟨by first | rfl | (simp [errW_none, errW_some] <;> rfl) | (simp [*, errW_none, errW_some] <;> rfl), be w⟩
 rw [if_pos c8] at H
 have c8b0 : decide (0 < t335) = true := decide_eq_true c8
 clear c8
 obtain ⟨t336, A90, H⟩ := Option.bind_eq_some_iff.mp H
 try dsimp only at H
 have A9 := As.mk A90
 clear A90
 obtain rfl := Option.some.inj H
 go_enter Tryd.func32, Tryd.ntmps32
 go_wp2_with (first | ((with_reducible refine gate_dst (N := 4) rfl ?_); refine box_event ?hg (N := 4) ?hd (cs := #[.slice A0_0 l0_0.length c0_0, .slice A0_1 l0_1.length c0_1]) (t := 52) ?hr ?_; (case hd => rfl); (case hg => rfl); (case hr => first | (go_simp; done) | (go_simp; rfl)); intro gb332 hg w10 hbox hb; have BK332 := As.mk (hbox); have GW332 := As.mk (gs w hg); have GE332 := As.mk (gs w hg); replace HB := As.mk (below_step (be w) hb); clear hb hbox hg) | ((with_reducible refine gate_dst (N := 6) rfl ?_); refine box_event ?hg (N := 6) ?hd (cs := #[.slice A2_0 l2_0.length c2_0, .slice A2_1 l2_1.length c2_1]) (t := 52) ?hr ?_; (case hd => rfl); (case hg => rfl); (case hr => first | (go_simp; done) | (go_simp; rfl)); intro gb333 hg w11 hbox hb; have BK333 := As.mk (hbox); have GW333 := As.mk (gs w hg); have GE333 := As.mk (gs w hg); replace HB := As.mk (below_step (be w) hb); have NB332_333 := As.mk (nl hg (bx BK332.out)); have NB333_332 := As.mk (ng hg (bx BK332.out)); replace BK332 := As.mk (blk_below (bx BK332.out) hb); clear hb hbox hg; have hnb12 := NB332_333.out; have hnc12 := NB333_332.out; obtain ⟨hcz13_0, hcz13_1, hfz13_0, hfz13_1⟩ := cl2 BK332.out) | ((with_reducible refine gate_callee (f := 18) rfl ?_); refine goesL_ (some 12) rfl rfl Tryd.func18 (by kernel_rfl) rfl #[.slice A0_0 l0_0.length c0_0, .int .i64 a1] rfl (by (try simp only [lm]); first | done | rfl | (simp only [List.length_drop, List.length_take]; rfl)) ?_; (with_reducible refine (impl_DeepOf.calls k _ _ l0_0 a1 t334 _ ?side1 ?side2 A5.out).mono ?_); (case side1 => exact Kd.C_below HR0_0.out (be w)); (case side2 => exact HC0_0.out); rintro e w14 ⟨rfl, hb⟩; refine ⟨_, rfl, ?_⟩; replace BK332 := As.mk (blk_below (bx BK332.out) hb); replace BK333 := As.mk (blk_below (bx BK333.out) hb); replace HB := As.mk (below_step (be w) hb); (try clear hb); (try clear hb2); (try clear hk); (try clear hi); obtain ⟨hcz15_0, hcz15_1, hfz15_0, hfz15_1⟩ := cl2 BK333.out) | (go_at_call 18; (with_reducible refine (impl_DeepOf.calls k _ _ l2_0 a3 t335 _ ?side1 ?side2 A7.out).mono ?_); (case side1 => exact Kd.C_below HR2_0.out (be w)); (case side2 => exact HC2_0.out); rintro e w16 ⟨rfl, hb⟩; replace BK332 := As.mk (blk_below (bx BK332.out) hb); replace BK333 := As.mk (blk_below (bx BK333.out) hb); replace HB := As.mk (below_step (be w) hb); (try clear hb); (try clear hb2); (try clear hk); (try clear hi); obtain ⟨hcz17_0, hcz17_1, hfz17_0, hfz17_1⟩ := cl2 BK332.out; obtain ⟨hcz18_0, hcz18_1, hfz18_0, hfz18_1⟩ := cl2 BK333.out) | (go_at_call 70; (with_reducible refine (impl_sameTree.calls k _ _ l0_0 _ _ l0_1 a1 _ _ l2_0 _ _ l2_1 a3 t336 _ ?side1 ?side2 ?side3 ?side4 ?side5 ?side6 ?side7 ?side8 A9.out).mono ?_); (case side1 => exact Kd.C_below HR0_0.out (be w)); (case side2 => exact HC0_0.out); (case side3 => exact Kd.C_below HR0_1.out (be w)); (case side4 => exact HC0_1.out); (case side5 => exact Kd.C_below HR2_0.out (be w)); (case side6 => exact HC2_0.out); (case side7 => exact Kd.C_below HR2_1.out (be w)); (case side8 => exact HC2_1.out); rintro e w19 ⟨rfl, hb⟩; replace HB := As.mk (below_step (be w) hb); (try clear hb); (try clear hb2); (try clear hk); (try clear hi)))
 go_ret
 exact ⟨by first | rfl | (simp [errW_none, errW_some] <;> rfl) | (simp [*, errW_none, errW_some] <;> rfl), be w⟩
/-! ### impl_sameHead: function 99 -/
mutual
def impl_sameHead.j0 : Nat → Bool → ByteArray → List (S95) → Int → Int → Int → ByteArray → List (S95) → Int → Int → Int → Option (Bool)
 | 0, _, _, _, _, _, _, _, _, _, _, _ => none
 | k + 1, x26, x338000, x338001, x338002, x338003, x338004, x339000, x339001, x339002, x339003, x339004 => if x26 = true then (some false) else (impl_sameHead.l0 k (x338001.length : Int) 0 x338000 x338001 x338002 x338003 x338004 x339000 x339001 x339002 x339003 x339004)
def impl_sameHead.l0 : Nat → Int → Int → ByteArray → List (S95) → Int → Int → Int → ByteArray → List (S95) → Int → Int → Int → Option (Bool)
 | 0, _, _, _, _, _, _, _, _, _, _, _, _ => none
 | k + 1, x29, x30, x338000, x338001, x338002, x338003, x338004, x339000, x339001, x339002, x339003, x339004 => if x30 < x29 then (if 0 ≤ x30 then (if x30 < (x338001.length : Int) then (if x30 < (x339001.length : Int) then (if (!((((rd_T95 x338001 x30).f0).toList) == (((rd_T95 x339001 x30).f0).toList)) || (!(((rd_T95 x338001 x30).f1) == ((rd_T95 x339001 x30).f1)))) = true then (some false) else (impl_sameHead.l0 k x29 (wrap64 (x30 + 1)) x338000 x338001 x338002 x338003 x338004 x339000 x339001 x339002 x339003 x339004)) else (none)) else (none)) else (none)) else (some true)
end
def impl_sameHead.f (k : Nat) (a0_0 : ByteArray) (l0_1 : List (S95)) (a0_2 : Int) (a0_3 : Int) (a0_4 : Int) (a1_0 : ByteArray) (l1_1 : List (S95)) (a1_2 : Int) (a1_3 : Int) (a1_4 : Int) : Option (Bool) := if a0_0.toList = a1_0.toList then (if a0_2 = a1_2 then (impl_sameHead.j0 k ((l0_1.length : Int) != (l1_1.length : Int)) a0_0 l0_1 a0_2 a0_3 a0_4 a1_0 l1_1 a1_2 a1_3 a1_4) else (impl_sameHead.j0 k true a0_0 l0_1 a0_2 a0_3 a0_4 a1_0 l1_1 a1_2 a1_3 a1_4)) else (impl_sameHead.j0 k true a0_0 l0_1 a0_2 a0_3 a0_4 a1_0 l1_1 a1_2 a1_3 a1_4)
theorem impl_sameHead.mono_l : ∀ k, (∀ y0 y1 y2 y3 y4 y5 y6 y7 y8 y9 y10, LeO (impl_sameHead.j0 k y0 y1 y2 y3 y4 y5 y6 y7 y8 y9 y10) (impl_sameHead.j0 (k + 1) y0 y1 y2 y3 y4 y5 y6 y7 y8 y9 y10)) ∧ (∀ y0 y1 y2 y3 y4 y5 y6 y7 y8 y9 y10 y11, LeO (impl_sameHead.l0 k y0 y1 y2 y3 y4 y5 y6 y7 y8 y9 y10 y11) (impl_sameHead.l0 (k + 1) y0 y1 y2 y3 y4 y5 y6 y7 y8 y9 y10 y11))
 | 0 => ⟨fun _ _ _ _ _ _ _ _ _ _ _ r h => by simp [impl_sameHead.j0] at h, fun _ _ _ _ _ _ _ _ _ _ _ _ r h => by simp [impl_sameHead.l0] at h⟩
 | k + 1 => by
  obtain ⟨ih0, ih1⟩ := impl_sameHead.mono_l k
  refine ⟨?_, ?_⟩
  ·
   intro y0 y1 y2 y3 y4 y5 y6 y7 y8 y9 y10
   unfold impl_sameHead.j0
   with_reducible repeat' first | exact ih0 _ _ _ _ _ _ _ _ _ _ _ | exact ih1 _ _ _ _ _ _ _ _ _ _ _ _ | exact LeO.refl _ | exact LeO.none _ | refine LeO.ite ?_ ?_ | refine LeO.bind ?_ (fun _ => ?_)
  ·
   intro y0 y1 y2 y3 y4 y5 y6 y7 y8 y9 y10 y11
   unfold impl_sameHead.l0
   with_reducible repeat' first | exact ih0 _ _ _ _ _ _ _ _ _ _ _ | exact ih1 _ _ _ _ _ _ _ _ _ _ _ _ | exact LeO.refl _ | exact LeO.none _ | refine LeO.ite ?_ ?_ | refine LeO.bind ?_ (fun _ => ?_)
theorem impl_sameHead.mono : ∀ a0 a1 a2 a3 a4 a5 a6 a7 a8 a9 k, LeO (impl_sameHead.f k a0 a1 a2 a3 a4 a5 a6 a7 a8 a9) (impl_sameHead.f (k + 1) a0 a1 a2 a3 a4 a5 a6 a7 a8 a9) := by
 intro a0 a1 a2 a3 a4 a5 a6 a7 a8 a9 k
 obtain ⟨ih0, ih1⟩ := impl_sameHead.mono_l k
 unfold impl_sameHead.f
 with_reducible repeat' first | exact ih0 _ _ _ _ _ _ _ _ _ _ _ | exact ih1 _ _ _ _ _ _ _ _ _ _ _ _ | exact LeO.refl _ | exact LeO.none _ | refine LeO.ite ?_ ?_ | refine LeO.bind ?_ (fun _ => ?_)
set_option maxHeartbeats 8000000 in
set_option maxRecDepth 100000 in
theorem impl_sameHead.calls (k : Nat) (a0_0 : ByteArray) (A0_1 : Option Addr) (c0_1 : Nat) (l0_1 : List (S95)) (a0_2 : Int) (a0_3 : Int) (a0_4 : Int) (a1_0 : ByteArray) (A1_1 : Option Addr) (c1_1 : Nat) (l1_1 : List (S95)) (a1_2 : Int) (a1_3 : Int) (a1_4 : Int) (r : Bool) (w : World) (hr0_1 : Kd.C k95 w A0_1 l0_1.length l0_1) (hc0_1 : l0_1.length ≤ c0_1) (hr1_1 : Kd.C k95 w A1_1 l1_1.length l1_1) (hc1_1 : l1_1.length ≤ c1_1) (h : impl_sameHead.f k a0_0 l0_1 a0_2 a0_3 a0_4 a1_0 l1_1 a1_2 a1_3 a1_4 = some r) :
  Calls Tryd.prog 99 #[.agg #[.string a0_0, .slice A0_1 l0_1.length c0_1, .int .i64 a0_2, .int .i64 a0_3, .int .i64 a0_4], .agg #[.string a1_0, .slice A1_1 l1_1.length c1_1, .int .i64 a1_2, .int .i64 a1_3, .int .i64 a1_4]] w fun e w' => e = .returned (.bool r) ∧ Below w.heap.size w w' := by
 have hu93 := Tryd.underlying93
 have hu95 := Tryd.underlying95
 have HR0_1 := As.mk hr0_1
 have HC0_1 := As.mk hc0_1
 clear hr0_1 hc0_1
 have HR1_1 := As.mk hr1_1
 have HC1_1 := As.mk hc1_1
 clear hr1_1 hc1_1
 have HB := As.mk (Below.refl w.heap.size w)
 have H : (if a0_0.toList = a1_0.toList then (if a0_2 = a1_2 then (impl_sameHead.j0 k ((l0_1.length : Int) != (l1_1.length : Int)) a0_0 l0_1 a0_2 a0_3 a0_4 a1_0 l1_1 a1_2 a1_3 a1_4) else (impl_sameHead.j0 k true a0_0 l0_1 a0_2 a0_3 a0_4 a1_0 l1_1 a1_2 a1_3 a1_4)) else (impl_sameHead.j0 k true a0_0 l0_1 a0_2 a0_3 a0_4 a1_0 l1_1 a1_2 a1_3 a1_4)) = some r := h
 clear h
 have HC3 := As.mk H
 clear H
 go_enter Tryd.func99, Tryd.ntmps99
 go_upto_region 1 with (first | ((with_reducible refine gate_dst (N := 2) rfl ?_); (try (refine gate_guard (by rfl) ?_; dsimp only)); refine box_event ?hg (N := 2) ?hd (cs := #[.string a0_0, .slice A0_1 l0_1.length c0_1, .int .i64 a0_2, .int .i64 a0_3, .int .i64 a0_4]) (t := 93) ?hr ?_; (case hd => rfl); (case hg => rfl); (case hr => first | (go_simp; done) | (go_simp; rfl)); intro gb337 hg w4 hbox hb; have BK337 := As.mk (hbox); have GW337 := As.mk (gs w hg); have GE337 := As.mk (gs w hg); replace HB := As.mk (below_step (be w) hb); clear hb hbox hg) | ((with_reducible refine gate_dst (N := 3) rfl ?_); (try (refine gate_guard (by rfl) ?_; dsimp only)); refine box_event ?hg (N := 3) ?hd (cs := #[.string a1_0, .slice A1_1 l1_1.length c1_1, .int .i64 a1_2, .int .i64 a1_3, .int .i64 a1_4]) (t := 93) ?hr ?_; (case hd => rfl); (case hg => rfl); (case hr => first | (go_simp; done) | (go_simp; rfl)); intro gb338 hg w5 hbox hb; have BK338 := As.mk (hbox); have GW338 := As.mk (gs w hg); have GE338 := As.mk (gs w hg); replace HB := As.mk (below_step (be w) hb); have NB337_338 := As.mk (nl hg (bx BK337.out)); have NB338_337 := As.mk (ng hg (bx BK337.out)); replace BK337 := As.mk (blk_below (bx BK337.out) hb); clear hb hbox hg))
 repeat (go_quiet (first | ((with_reducible refine gate_dst (N := 2) rfl ?_); (try (refine gate_guard (by rfl) ?_; dsimp only)); refine box_event ?hg (N := 2) ?hd (cs := #[.string a0_0, .slice A0_1 l0_1.length c0_1, .int .i64 a0_2, .int .i64 a0_3, .int .i64 a0_4]) (t := 93) ?hr ?_; (case hd => rfl); (case hg => rfl); (case hr => first | (go_simp; done) | (go_simp; rfl)); intro gb337 hg w4 hbox hb; have BK337 := As.mk (hbox); have GW337 := As.mk (gs w hg); have GE337 := As.mk (gs w hg); replace HB := As.mk (below_step (be w) hb); clear hb hbox hg) | ((with_reducible refine gate_dst (N := 3) rfl ?_); (try (refine gate_guard (by rfl) ?_; dsimp only)); refine box_event ?hg (N := 3) ?hd (cs := #[.string a1_0, .slice A1_1 l1_1.length c1_1, .int .i64 a1_2, .int .i64 a1_3, .int .i64 a1_4]) (t := 93) ?hr ?_; (case hd => rfl); (case hg => rfl); (case hr => first | (go_simp; done) | (go_simp; rfl)); intro gb338 hg w5 hbox hb; have BK338 := As.mk (hbox); have GW338 := As.mk (gs w hg); have GE338 := As.mk (gs w hg); replace HB := As.mk (below_step (be w) hb); have NB337_338 := As.mk (nl hg (bx BK337.out)); have NB338_337 := As.mk (ng hg (bx BK337.out)); replace BK337 := As.mk (blk_below (bx BK337.out) hb); clear hb hbox hg)); go_upto_region 1 with (first | ((with_reducible refine gate_dst (N := 2) rfl ?_); (try (refine gate_guard (by rfl) ?_; dsimp only)); refine box_event ?hg (N := 2) ?hd (cs := #[.string a0_0, .slice A0_1 l0_1.length c0_1, .int .i64 a0_2, .int .i64 a0_3, .int .i64 a0_4]) (t := 93) ?hr ?_; (case hd => rfl); (case hg => rfl); (case hr => first | (go_simp; done) | (go_simp; rfl)); intro gb337 hg w4 hbox hb; have BK337 := As.mk (hbox); have GW337 := As.mk (gs w hg); have GE337 := As.mk (gs w hg); replace HB := As.mk (below_step (be w) hb); clear hb hbox hg) | ((with_reducible refine gate_dst (N := 3) rfl ?_); (try (refine gate_guard (by rfl) ?_; dsimp only)); refine box_event ?hg (N := 3) ?hd (cs := #[.string a1_0, .slice A1_1 l1_1.length c1_1, .int .i64 a1_2, .int .i64 a1_3, .int .i64 a1_4]) (t := 93) ?hr ?_; (case hd => rfl); (case hg => rfl); (case hr => first | (go_simp; done) | (go_simp; rfl)); intro gb338 hg w5 hbox hb; have BK338 := As.mk (hbox); have GW338 := As.mk (gs w hg); have GE338 := As.mk (gs w hg); replace HB := As.mk (below_step (be w) hb); have NB337_338 := As.mk (nl hg (bx BK337.out)); have NB338_337 := As.mk (ng hg (bx BK337.out)); replace BK337 := As.mk (blk_below (bx BK337.out) hb); clear hb hbox hg)))
 (try simp only [pk])
 go_cut [26] (fun v26 wc => ∃ (kq : Nat) (x26_2 : Bool), v26 = .bool x26_2 ∧ As (impl_sameHead.j0 kq x26_2 a0_0 l0_1 a0_2 a0_3 a0_4 a1_0 l1_1 a1_2 a1_3 a1_4 = some r) ∧ As (kq ≤ k) ∧ As (wc.heap[gb337]? = some (.cells #[.string a0_0, (.slice A0_1 l0_1.length c0_1), .int .i64 a0_2, .int .i64 a0_3, .int .i64 a0_4] 93 (0, 0))) ∧ As (wc.heap[gb338]? = some (.cells #[.string a1_0, (.slice A1_1 l1_1.length c1_1), .int .i64 a1_2, .int .i64 a1_3, .int .i64 a1_4] 93 (0, 0))) ∧ As (Below w.heap.size w wc))
 case first =>
  have H := HC3.out
  clear HC3
  by_cases c6 : a0_0.toList = a1_0.toList
  rotate_left
  ·
   rw [if_neg c6] at H
   have c6b0 : (a0_0.toList == a1_0.toList) = false := beq_eq_false_iff_ne.mpr c6
   have c6b1 : (a0_0.toList != a1_0.toList) = true := bne_iff_ne.mpr c6
   (first | rw [c6b0] | (simp only [i64_w, i32_w]; rw [c6b0]) | skip)
   have H' := As.mk H
   clear H
   have hnb14 := NB337_338.out
   have hnc14 := NB338_337.out
   obtain ⟨hcz15_0, hcz15_1, hcz15_2, hcz15_3, hcz15_4, hfz15_0, hfz15_1, hfz15_2, hfz15_3, hfz15_4⟩ := cl5 BK337.out
   obtain ⟨hcz16_0, hcz16_1, hcz16_2, hcz16_3, hcz16_4, hfz16_0, hfz16_1, hfz16_2, hfz16_3, hfz16_4⟩ := cl5 BK338.out
   go_wp2
   go_meet
   case rel => exact ⟨_, (true), (by first | rfl | (simp; done) | (simp [*]; done)), H', ⟨by first | omega | exact Nat.le_refl _⟩, ⟨bx BK337.out⟩, ⟨bx BK338.out⟩, ⟨be w⟩⟩
  rw [if_pos c6] at H
  have c6b0 : (a0_0.toList == a1_0.toList) = true := beq_iff_eq.mpr c6
  have c6b1 : (a0_0.toList != a1_0.toList) = false := bne_eq_false_iff_eq.mpr c6
  clear c6
  (first | rw [c6b0] | (simp only [i64_w, i32_w]; rw [c6b0]) | skip)
  by_cases c7 : a0_2 = a1_2
  rotate_left
  ·
   rw [if_neg c7] at H
   have c7b0 : (a0_2 == a1_2) = false := beq_eq_false_iff_ne.mpr c7
   have c7b1 : (a0_2 != a1_2) = true := bne_iff_ne.mpr c7
   have H' := As.mk H
   clear H
   have hnb11 := NB337_338.out
   have hnc11 := NB338_337.out
   obtain ⟨hcz12_0, hcz12_1, hcz12_2, hcz12_3, hcz12_4, hfz12_0, hfz12_1, hfz12_2, hfz12_3, hfz12_4⟩ := cl5 BK337.out
   obtain ⟨hcz13_0, hcz13_1, hcz13_2, hcz13_3, hcz13_4, hfz13_0, hfz13_1, hfz13_2, hfz13_3, hfz13_4⟩ := cl5 BK338.out
   go_wp2
   go_meet
   case rel => exact ⟨_, (true), (by first | rfl | (simp; done) | (simp [*]; done)), H', ⟨by first | omega | exact Nat.le_refl _⟩, ⟨bx BK337.out⟩, ⟨bx BK338.out⟩, ⟨be w⟩⟩
  rw [if_pos c7] at H
  have c7b0 : (a0_2 == a1_2) = true := beq_iff_eq.mpr c7
  have c7b1 : (a0_2 != a1_2) = false := bne_eq_false_iff_eq.mpr c7
  clear c7
  have H' := As.mk H
  clear H
  have hnb8 := NB337_338.out
  have hnc8 := NB338_337.out
  obtain ⟨hcz9_0, hcz9_1, hcz9_2, hcz9_3, hcz9_4, hfz9_0, hfz9_1, hfz9_2, hfz9_3, hfz9_4⟩ := cl5 BK337.out
  obtain ⟨hcz10_0, hcz10_1, hcz10_2, hcz10_3, hcz10_4, hfz10_0, hfz10_1, hfz10_2, hfz10_3, hfz10_4⟩ := cl5 BK338.out
  go_wp2
  go_meet
  case rel => exact ⟨_, (((l0_1.length : Int) != (l1_1.length : Int))), (by first | rfl | (simp; done) | (simp [*]; done)), H', ⟨by first | omega | exact Nat.le_refl _⟩, ⟨bx BK337.out⟩, ⟨bx BK338.out⟩, ⟨be w⟩⟩
 case rest =>
  clear HC3
  obtain ⟨kq, x26_2, rfl, HA, HJ2, BK337, BK338, HB⟩ := hcut
  cases kq with
  | zero => exact absurd HA.out (by simp [impl_sameHead.j0])
  | succ kj2 =>
   have H := HA.out
   clear HA
   simp only [impl_sameHead.j0] at H
   by_cases c17 : x26_2 = true
   ·
    subst c17
    rw [if_pos rfl] at H
    obtain rfl := Option.some.inj H
    go_wp2
    go_ret
    exact ⟨by first | rfl | (simp [errW_none, errW_some] <;> rfl) | (simp [*, errW_none, errW_some] <;> rfl), be w⟩
   replace c17 := Bool.eq_false_iff.mpr c17
   subst c17
   rw [if_neg (show ¬ (false = true) by decide)] at H
   have H' := As.mk H
   clear H
   have hnb18 := NB337_338.out
   have hnc18 := NB338_337.out
   obtain ⟨hcz19_0, hcz19_1, hcz19_2, hcz19_3, hcz19_4, hfz19_0, hfz19_1, hfz19_2, hfz19_3, hfz19_4⟩ := cl5 BK337.out
   go_wp2
   go_loopg [30] kj2 (fun kq v30 w' => ∃ (x30_2 : Int), v30 = .int .i64 x30_2 ∧ As (impl_sameHead.l0 kq (l0_1.length : Int) x30_2 a0_0 l0_1 a0_2 a0_3 a0_4 a1_0 l1_1 a1_2 a1_3 a1_4 = some r) ∧ As (kq ≤ kj2) ∧ As (w'.heap[gb337]? = some (.cells #[.string a0_0, (.slice A0_1 l0_1.length c0_1), .int .i64 a0_2, .int .i64 a0_3, .int .i64 a0_4] 93 (0, 0))) ∧ As (w'.heap[gb338]? = some (.cells #[.string a1_0, (.slice A1_1 l1_1.length c1_1), .int .i64 a1_2, .int .i64 a1_3, .int .i64 a1_4] 93 (0, 0))) ∧ As (Below w.heap.size w w'))
   case atStart => exact ⟨(0), (by first | rfl | (simp; done) | (simp [*]; done)), H', ⟨Nat.le_refl _⟩, ⟨bx BK337.out⟩, ⟨bx BK338.out⟩, ⟨be w⟩⟩
   case round =>
    clear H'
    (try clear c17); (try clear hcz19_0); (try clear hcz19_1); (try clear hcz19_2); (try clear hcz19_3); (try clear hcz19_4); (try clear hfz19_0); (try clear hfz19_1); (try clear hfz19_2); (try clear hfz19_3); (try clear hfz19_4)
    obtain ⟨x30_2, rfl, HA, HK2, BK337, BK338, HB⟩ := hrel
    cases gk with
    | zero => exact absurd HA.out (by simp [impl_sameHead.l0])
    | succ k2 =>
     have H := HA.out
     clear HA
     simp only [impl_sameHead.l0] at H
     by_cases c20 : x30_2 < (l0_1.length : Int)
     rotate_left
     ·
      rw [if_neg c20] at H
      have c20b0 : decide (x30_2 < (l0_1.length : Int)) = false := decide_eq_false c20
      clear c20
      obtain rfl := Option.some.inj H
      go_wp2
      go_ret
      exact ⟨by first | rfl | (simp [errW_none, errW_some] <;> rfl) | (simp [*, errW_none, errW_some] <;> rfl), be w⟩

     rw [if_pos c20] at H
     have c20b0 : decide (x30_2 < (l0_1.length : Int)) = true := decide_eq_true c20
     clear c20
     by_cases c21 : 0 ≤ x30_2
     rotate_left
     ·
      rw [if_neg c21] at H
      exact absurd H (by simp)
     rw [if_pos c21] at H
     have c21b0 : decide (0 ≤ x30_2) = true := decide_eq_true c21
     clear c21
     by_cases c22 : x30_2 < (l0_1.length : Int)
     rotate_left
     ·
      rw [if_neg c22] at H
      exact absurd H (by simp)
     rw [if_pos c22] at H
     have c22b0 : decide (x30_2 < (l0_1.length : Int)) = true := decide_eq_true c22
     clear c22
     by_cases c23 : x30_2 < (l1_1.length : Int)
     rotate_left
     ·
      rw [if_neg c23] at H
      exact absurd H (by simp)
     rw [if_pos c23] at H
     have c23b0 : decide (x30_2 < (l1_1.length : Int)) = true := decide_eq_true c23
     clear c23
     by_cases c24 : (!((((rd_T95 l0_1 x30_2).f0).toList) == (((rd_T95 l1_1 x30_2).f0).toList)) || (!(((rd_T95 l0_1 x30_2).f1) == ((rd_T95 l1_1 x30_2).f1)))) = true
     ·
      rw [if_pos c24] at H
      have c24b0 : (!((((rd_T95 l0_1 x30_2).f0).toList) == (((rd_T95 l1_1 x30_2).f0).toList)) || (!(((rd_T95 l0_1 x30_2).f1) == ((rd_T95 l1_1 x30_2).f1)))) = true := c24
      clear c24
      obtain rfl := Option.some.inj H
      have hnb25 := NB337_338.out
      have hnc25 := NB338_337.out
      obtain ⟨hcz26_0, hcz26_1, hcz26_2, hcz26_3, hcz26_4, hfz26_0, hfz26_1, hfz26_2, hfz26_3, hfz26_4⟩ := cl5 BK337.out
      have p339 : 0 ≤ (x30_2 : Int) := of_decide_eq_true (by first | (with_reducible assumption) | assumption)
      have q339 : x30_2 < (l0_1.length : Int) := of_decide_eq_true (by first | (with_reducible assumption) | assumption)
      obtain ⟨ad339, e339, hx339_0, hx339_1⟩ := at_T95 HR0_1.out x30_2 p339 q339
      cases e339
      replace hx339_0 := ce HB.out hx339_0
      replace hx339_1 := ce HB.out hx339_1
      replace p339 := eq_true p339
      replace q339 := eq_true q339
      obtain ⟨hcz27_0, hcz27_1, hcz27_2, hcz27_3, hcz27_4, hfz27_0, hfz27_1, hfz27_2, hfz27_3, hfz27_4⟩ := cl5 BK338.out
      have p340 : 0 ≤ (x30_2 : Int) := of_decide_eq_true (by first | (with_reducible assumption) | assumption)
      have q340 : x30_2 < (l1_1.length : Int) := of_decide_eq_true (by first | (with_reducible assumption) | assumption)
      obtain ⟨ad340, e340, hx340_0, hx340_1⟩ := at_T95 HR1_1.out x30_2 p340 q340
      cases e340
      replace hx340_0 := ce HB.out hx340_0
      replace hx340_1 := ce HB.out hx340_1
      replace p340 := eq_true p340
      replace q340 := eq_true q340
      go_wp2
      (try go_quiet (fail))
      try go_wp2
      go_ret
      exact ⟨by first | rfl | (simp [errW_none, errW_some] <;> rfl) | (simp [*, errW_none, errW_some] <;> rfl), be w⟩
     rw [if_neg c24] at H
     have c24b0 : (!((((rd_T95 l0_1 x30_2).f0).toList) == (((rd_T95 l1_1 x30_2).f0).toList)) || (!(((rd_T95 l0_1 x30_2).f1) == ((rd_T95 l1_1 x30_2).f1)))) = false := by simpa using c24
     clear c24
     have H' := As.mk H
     clear H
     have hnb28 := NB337_338.out
     have hnc28 := NB338_337.out
     obtain ⟨hcz29_0, hcz29_1, hcz29_2, hcz29_3, hcz29_4, hfz29_0, hfz29_1, hfz29_2, hfz29_3, hfz29_4⟩ := cl5 BK337.out
     have p339 : 0 ≤ (x30_2 : Int) := of_decide_eq_true (by first | (with_reducible assumption) | assumption)
     have q339 : x30_2 < (l0_1.length : Int) := of_decide_eq_true (by first | (with_reducible assumption) | assumption)
     obtain ⟨ad339, e339, hx339_0, hx339_1⟩ := at_T95 HR0_1.out x30_2 p339 q339
     cases e339
     replace hx339_0 := ce HB.out hx339_0
     replace hx339_1 := ce HB.out hx339_1
     replace p339 := eq_true p339
     replace q339 := eq_true q339
     obtain ⟨hcz30_0, hcz30_1, hcz30_2, hcz30_3, hcz30_4, hfz30_0, hfz30_1, hfz30_2, hfz30_3, hfz30_4⟩ := cl5 BK338.out
     have p340 : 0 ≤ (x30_2 : Int) := of_decide_eq_true (by first | (with_reducible assumption) | assumption)
     have q340 : x30_2 < (l1_1.length : Int) := of_decide_eq_true (by first | (with_reducible assumption) | assumption)
     obtain ⟨ad340, e340, hx340_0, hx340_1⟩ := at_T95 HR1_1.out x30_2 p340 q340
     cases e340
     replace hx340_0 := ce HB.out hx340_0
     replace hx340_1 := ce HB.out hx340_1
     replace p340 := eq_true p340
     replace q340 := eq_true q340
     go_wp2
     (try go_quiet (fail))
     try go_wp2
     go_roundg k2
     case measure => have := HJ2.out; have := HK2.out; omega
     case rel => exact ⟨(wrap64 (x30_2 + 1)), (by first | rfl | (simp; done) | (simp [*]; done)), H', ⟨by have := HJ2.out; have := HK2.out; omega⟩, ⟨bx BK337.out⟩, ⟨bx BK338.out⟩, ⟨be w⟩⟩
/-! ### impl_sameFns: function 72 -/
def impl_sameFns.f (k : Nat) (l0_0 : List (S64)) (l0_1 : List (S93)) (a1_0 : ByteArray) (l1_1 : List (S95)) (a1_2 : Int) (a1_3 : Int) (a1_4 : Int) (l2_0 : List (S64)) (l2_1 : List (S93)) (a3_0 : ByteArray) (l3_1 : List (S95)) (a3_2 : Int) (a3_3 : Int) (a3_4 : Int) : Option (Bool) := (impl_sameHead.f k a1_0 l1_1 a1_2 a1_3 a1_4 a3_0 l3_1 a3_2 a3_3 a3_4).bind fun t345 => (if t345 = true then ((impl_SameTree.f k l0_0 l0_1 a1_3 l2_0 l2_1 a3_3).bind fun t346 => (if t346 = true then (if ((decide (a1_4 < 0)) != (decide (a3_4 < 0))) = true then (some false) else (if a1_4 < 0 then (some true) else ((impl_SameTree.f k l0_0 l0_1 a1_4 l2_0 l2_1 a3_4).bind fun t347 => (some t347)))) else (some false))) else (some false))
theorem impl_sameFns.mono : ∀ a0 a1 a2 a3 a4 a5 a6 a7 a8 a9 a10 a11 a12 a13 k, LeO (impl_sameFns.f k a0 a1 a2 a3 a4 a5 a6 a7 a8 a9 a10 a11 a12 a13) (impl_sameFns.f (k + 1) a0 a1 a2 a3 a4 a5 a6 a7 a8 a9 a10 a11 a12 a13) := by
 intro a0 a1 a2 a3 a4 a5 a6 a7 a8 a9 a10 a11 a12 a13 k
 unfold impl_sameFns.f
 with_reducible repeat' first | exact impl_SameTree.mono _ _ _ _ _ _ _ | exact impl_sameHead.mono _ _ _ _ _ _ _ _ _ _ _ | exact LeO.refl _ | exact LeO.none _ | refine LeO.ite ?_ ?_ | refine LeO.bind ?_ (fun _ => ?_)
set_option maxHeartbeats 8000000 in
set_option maxRecDepth 100000 in
theorem impl_sameFns.calls (k : Nat) (A0_0 : Option Addr) (c0_0 : Nat) (l0_0 : List (S64)) (A0_1 : Option Addr) (c0_1 : Nat) (l0_1 : List (S93)) (a1_0 : ByteArray) (A1_1 : Option Addr) (c1_1 : Nat) (l1_1 : List (S95)) (a1_2 : Int) (a1_3 : Int) (a1_4 : Int) (A2_0 : Option Addr) (c2_0 : Nat) (l2_0 : List (S64)) (A2_1 : Option Addr) (c2_1 : Nat) (l2_1 : List (S93)) (a3_0 : ByteArray) (A3_1 : Option Addr) (c3_1 : Nat) (l3_1 : List (S95)) (a3_2 : Int) (a3_3 : Int) (a3_4 : Int) (r : Bool) (w : World) (hr0_0 : Kd.C k64 w A0_0 l0_0.length l0_0) (hc0_0 : l0_0.length ≤ c0_0) (hr0_1 : Kd.C k93 w A0_1 l0_1.length l0_1) (hc0_1 : l0_1.length ≤ c0_1) (hr1_1 : Kd.C k95 w A1_1 l1_1.length l1_1) (hc1_1 : l1_1.length ≤ c1_1) (hr2_0 : Kd.C k64 w A2_0 l2_0.length l2_0) (hc2_0 : l2_0.length ≤ c2_0) (hr2_1 : Kd.C k93 w A2_1 l2_1.length l2_1) (hc2_1 : l2_1.length ≤ c2_1) (hr3_1 : Kd.C k95 w A3_1 l3_1.length l3_1) (hc3_1 : l3_1.length ≤ c3_1) (h : impl_sameFns.f k l0_0 l0_1 a1_0 l1_1 a1_2 a1_3 a1_4 l2_0 l2_1 a3_0 l3_1 a3_2 a3_3 a3_4 = some r) :
  Calls Tryd.prog 72 #[.agg #[.slice A0_0 l0_0.length c0_0, .slice A0_1 l0_1.length c0_1], .agg #[.string a1_0, .slice A1_1 l1_1.length c1_1, .int .i64 a1_2, .int .i64 a1_3, .int .i64 a1_4], .agg #[.slice A2_0 l2_0.length c2_0, .slice A2_1 l2_1.length c2_1], .agg #[.string a3_0, .slice A3_1 l3_1.length c3_1, .int .i64 a3_2, .int .i64 a3_3, .int .i64 a3_4]] w fun e w' => e = .returned (.bool r) ∧ Below w.heap.size w w' := by
 have hu52 := Tryd.underlying52
 have hu93 := Tryd.underlying93
 have HR0_0 := As.mk hr0_0
 have HC0_0 := As.mk hc0_0
 clear hr0_0 hc0_0
 have HR0_1 := As.mk hr0_1
 have HC0_1 := As.mk hc0_1
 clear hr0_1 hc0_1
 have HR1_1 := As.mk hr1_1
 have HC1_1 := As.mk hc1_1
 clear hr1_1 hc1_1
 have HR2_0 := As.mk hr2_0
 have HC2_0 := As.mk hc2_0
 clear hr2_0 hc2_0
 have HR2_1 := As.mk hr2_1
 have HC2_1 := As.mk hc2_1
 clear hr2_1 hc2_1
 have HR3_1 := As.mk hr3_1
 have HC3_1 := As.mk hc3_1
 clear hr3_1 hc3_1
 have HB := As.mk (Below.refl w.heap.size w)
 have H : ((impl_sameHead.f k a1_0 l1_1 a1_2 a1_3 a1_4 a3_0 l3_1 a3_2 a3_3 a3_4).bind fun t345 => (if t345 = true then ((impl_SameTree.f k l0_0 l0_1 a1_3 l2_0 l2_1 a3_3).bind fun t346 => (if t346 = true then (if ((decide (a1_4 < 0)) != (decide (a3_4 < 0))) = true then (some false) else (if a1_4 < 0 then (some true) else ((impl_SameTree.f k l0_0 l0_1 a1_4 l2_0 l2_1 a3_4).bind fun t347 => (some t347)))) else (some false))) else (some false))) = some r := h
 clear h
 obtain ⟨t345, A50, H⟩ := Option.bind_eq_some_iff.mp H
 try dsimp only at H
 have A5 := As.mk A50
 clear A50
 by_cases c6 : t345 = true
 rotate_left
 ·
  replace c6 := Bool.eq_false_iff.mpr c6
  subst c6
  rw [if_neg (show ¬ (false = true) by decide)] at H
  obtain rfl := Option.some.inj H
  go_enter Tryd.func72, Tryd.ntmps72
  go_wp2_with (first | ((with_reducible refine gate_dst (N := 4) rfl ?_); refine box_event ?hg (N := 4) ?hd (cs := #[.slice A0_0 l0_0.length c0_0, .slice A0_1 l0_1.length c0_1]) (t := 52) ?hr ?_; (case hd => rfl); (case hg => rfl); (case hr => first | (go_simp; done) | (go_simp; rfl)); intro gb341 hg w93 hbox hb; have BK341 := As.mk (hbox); have GW341 := As.mk (gs w hg); have GE341 := As.mk (gs w hg); replace HB := As.mk (below_step (be w) hb); clear hb hbox hg) | ((with_reducible refine gate_dst (N := 5) rfl ?_); refine box_event ?hg (N := 5) ?hd (cs := #[.string a1_0, .slice A1_1 l1_1.length c1_1, .int .i64 a1_2, .int .i64 a1_3, .int .i64 a1_4]) (t := 93) ?hr ?_; (case hd => rfl); (case hg => rfl); (case hr => first | (go_simp; done) | (go_simp; rfl)); intro gb342 hg w94 hbox hb; have BK342 := As.mk (hbox); have GW342 := As.mk (gs w hg); have GE342 := As.mk (gs w hg); replace HB := As.mk (below_step (be w) hb); clear hb hbox hg) | ((with_reducible refine gate_dst (N := 6) rfl ?_); refine box_event ?hg (N := 6) ?hd (cs := #[.slice A2_0 l2_0.length c2_0, .slice A2_1 l2_1.length c2_1]) (t := 52) ?hr ?_; (case hd => rfl); (case hg => rfl); (case hr => first | (go_simp; done) | (go_simp; rfl)); intro gb343 hg w95 hbox hb; have BK343 := As.mk (hbox); have GW343 := As.mk (gs w hg); have GE343 := As.mk (gs w hg); replace HB := As.mk (below_step (be w) hb); have NB342_343 := As.mk (nl hg (bx BK342.out)); have NB343_342 := As.mk (ng hg (bx BK342.out)); replace BK342 := As.mk (blk_below (bx BK342.out) hb); clear hb hbox hg) | ((with_reducible refine gate_dst (N := 7) rfl ?_); refine box_event ?hg (N := 7) ?hd (cs := #[.string a3_0, .slice A3_1 l3_1.length c3_1, .int .i64 a3_2, .int .i64 a3_3, .int .i64 a3_4]) (t := 93) ?hr ?_; (case hd => rfl); (case hg => rfl); (case hr => first | (go_simp; done) | (go_simp; rfl)); intro gb344 hg w96 hbox hb; have BK344 := As.mk (hbox); have GW344 := As.mk (gs w hg); have GE344 := As.mk (gs w hg); replace HB := As.mk (below_step (be w) hb); have NB342_344 := As.mk (nl hg (bx BK342.out)); have NB344_342 := As.mk (ng hg (bx BK342.out)); replace BK342 := As.mk (blk_below (bx BK342.out) hb); clear hb hbox hg; have hnb97 := NB342_344.out; have hnc97 := NB344_342.out; obtain ⟨hcz98_0, hcz98_1, hcz98_2, hcz98_3, hcz98_4, hfz98_0, hfz98_1, hfz98_2, hfz98_3, hfz98_4⟩ := cl5 BK342.out; obtain ⟨hcz99_0, hcz99_1, hcz99_2, hcz99_3, hcz99_4, hfz99_0, hfz99_1, hfz99_2, hfz99_3, hfz99_4⟩ := cl5 BK344.out) | ((with_reducible refine gate_callee (f := 99) rfl ?_); refine goesL_ (some 11) rfl rfl Tryd.func99 (by kernel_rfl) rfl #[.agg #[.string a1_0, .slice A1_1 l1_1.length c1_1, .int .i64 a1_2, .int .i64 a1_3, .int .i64 a1_4], .agg #[.string a3_0, .slice A3_1 l3_1.length c3_1, .int .i64 a3_2, .int .i64 a3_3, .int .i64 a3_4]] rfl (by (try simp only [lm]); first | done | rfl | (simp only [List.length_drop, List.length_take]; rfl)) ?_; (with_reducible refine (impl_sameHead.calls k a1_0 _ _ l1_1 a1_2 a1_3 a1_4 a3_0 _ _ l3_1 a3_2 a3_3 a3_4 false _ ?side1 ?side2 ?side3 ?side4 A5.out).mono ?_); (case side1 => exact Kd.C_below HR1_1.out (be w)); (case side2 => exact HC1_1.out); (case side3 => exact Kd.C_below HR3_1.out (be w)); (case side4 => exact HC3_1.out); rintro e w100 ⟨rfl, hb⟩; refine ⟨_, rfl, ?_⟩; replace HB := As.mk (below_step (be w) hb); (try clear hb); (try clear hb2); (try clear hk); (try clear hi)))
  go_ret
  exact ⟨by first | rfl | (simp [errW_none, errW_some] <;> rfl) | (simp [*, errW_none, errW_some] <;> rfl), be w⟩

 subst c6
 rw [if_pos rfl] at H
 obtain ⟨t346, A70, H⟩ := Option.bind_eq_some_iff.mp H
 try dsimp only at H
 have A7 := As.mk A70
 clear A70
 by_cases c8 : t346 = true
 rotate_left
 ·
  replace c8 := Bool.eq_false_iff.mpr c8
  subst c8
  rw [if_neg (show ¬ (false = true) by decide)] at H
  obtain rfl := Option.some.inj H
  go_enter Tryd.func72, Tryd.ntmps72
  go_wp2_with (first | ((with_reducible refine gate_dst (N := 4) rfl ?_); refine box_event ?hg (N := 4) ?hd (cs := #[.slice A0_0 l0_0.length c0_0, .slice A0_1 l0_1.length c0_1]) (t := 52) ?hr ?_; (case hd => rfl); (case hg => rfl); (case hr => first | (go_simp; done) | (go_simp; rfl)); intro gb341 hg w75 hbox hb; have BK341 := As.mk (hbox); have GW341 := As.mk (gs w hg); have GE341 := As.mk (gs w hg); replace HB := As.mk (below_step (be w) hb); clear hb hbox hg) | ((with_reducible refine gate_dst (N := 5) rfl ?_); refine box_event ?hg (N := 5) ?hd (cs := #[.string a1_0, .slice A1_1 l1_1.length c1_1, .int .i64 a1_2, .int .i64 a1_3, .int .i64 a1_4]) (t := 93) ?hr ?_; (case hd => rfl); (case hg => rfl); (case hr => first | (go_simp; done) | (go_simp; rfl)); intro gb342 hg w76 hbox hb; have BK342 := As.mk (hbox); have GW342 := As.mk (gs w hg); have GE342 := As.mk (gs w hg); replace HB := As.mk (below_step (be w) hb); have NB341_342 := As.mk (nl hg (bx BK341.out)); have NB342_341 := As.mk (ng hg (bx BK341.out)); replace BK341 := As.mk (blk_below (bx BK341.out) hb); clear hb hbox hg) | ((with_reducible refine gate_dst (N := 6) rfl ?_); refine box_event ?hg (N := 6) ?hd (cs := #[.slice A2_0 l2_0.length c2_0, .slice A2_1 l2_1.length c2_1]) (t := 52) ?hr ?_; (case hd => rfl); (case hg => rfl); (case hr => first | (go_simp; done) | (go_simp; rfl)); intro gb343 hg w77 hbox hb; have BK343 := As.mk (hbox); have GW343 := As.mk (gs w hg); have GE343 := As.mk (gs w hg); replace HB := As.mk (below_step (be w) hb); have NB341_343 := As.mk (nl hg (bx BK341.out)); have NB343_341 := As.mk (ng hg (bx BK341.out)); replace BK341 := As.mk (blk_below (bx BK341.out) hb); have NB342_343 := As.mk (nl hg (bx BK342.out)); have NB343_342 := As.mk (ng hg (bx BK342.out)); replace BK342 := As.mk (blk_below (bx BK342.out) hb); clear hb hbox hg) | ((with_reducible refine gate_dst (N := 7) rfl ?_); refine box_event ?hg (N := 7) ?hd (cs := #[.string a3_0, .slice A3_1 l3_1.length c3_1, .int .i64 a3_2, .int .i64 a3_3, .int .i64 a3_4]) (t := 93) ?hr ?_; (case hd => rfl); (case hg => rfl); (case hr => first | (go_simp; done) | (go_simp; rfl)); intro gb344 hg w78 hbox hb; have BK344 := As.mk (hbox); have GW344 := As.mk (gs w hg); have GE344 := As.mk (gs w hg); replace HB := As.mk (below_step (be w) hb); have NB341_344 := As.mk (nl hg (bx BK341.out)); have NB344_341 := As.mk (ng hg (bx BK341.out)); replace BK341 := As.mk (blk_below (bx BK341.out) hb); have NB342_344 := As.mk (nl hg (bx BK342.out)); have NB344_342 := As.mk (ng hg (bx BK342.out)); replace BK342 := As.mk (blk_below (bx BK342.out) hb); have NB343_344 := As.mk (nl hg (bx BK343.out)); have NB344_343 := As.mk (ng hg (bx BK343.out)); replace BK343 := As.mk (blk_below (bx BK343.out) hb); clear hb hbox hg; have hnb79 := NB342_341.out; have hnc79 := NB341_342.out; have hnb80 := NB342_343.out; have hnc80 := NB343_342.out; have hnb81 := NB342_344.out; have hnc81 := NB344_342.out; obtain ⟨hcz82_0, hcz82_1, hcz82_2, hcz82_3, hcz82_4, hfz82_0, hfz82_1, hfz82_2, hfz82_3, hfz82_4⟩ := cl5 BK342.out; have hnb83 := NB344_341.out; have hnc83 := NB341_344.out; have hnb84 := NB344_343.out; have hnc84 := NB343_344.out; obtain ⟨hcz85_0, hcz85_1, hcz85_2, hcz85_3, hcz85_4, hfz85_0, hfz85_1, hfz85_2, hfz85_3, hfz85_4⟩ := cl5 BK344.out) | ((with_reducible refine gate_callee (f := 99) rfl ?_); refine goesL_ (some 11) rfl rfl Tryd.func99 (by kernel_rfl) rfl #[.agg #[.string a1_0, .slice A1_1 l1_1.length c1_1, .int .i64 a1_2, .int .i64 a1_3, .int .i64 a1_4], .agg #[.string a3_0, .slice A3_1 l3_1.length c3_1, .int .i64 a3_2, .int .i64 a3_3, .int .i64 a3_4]] rfl (by (try simp only [lm]); first | done | rfl | (simp only [List.length_drop, List.length_take]; rfl)) ?_; (with_reducible refine (impl_sameHead.calls k a1_0 _ _ l1_1 a1_2 a1_3 a1_4 a3_0 _ _ l3_1 a3_2 a3_3 a3_4 true _ ?side1 ?side2 ?side3 ?side4 A5.out).mono ?_); (case side1 => exact Kd.C_below HR1_1.out (be w)); (case side2 => exact HC1_1.out); (case side3 => exact Kd.C_below HR3_1.out (be w)); (case side4 => exact HC3_1.out); rintro e w86 ⟨rfl, hb⟩; refine ⟨_, rfl, ?_⟩; replace BK341 := As.mk (blk_below (bx BK341.out) hb); replace BK342 := As.mk (blk_below (bx BK342.out) hb); replace BK343 := As.mk (blk_below (bx BK343.out) hb); replace BK344 := As.mk (blk_below (bx BK344.out) hb); replace HB := As.mk (below_step (be w) hb); (try clear hb); (try clear hb2); (try clear hk); (try clear hi); have hnb87 := NB341_343.out; have hnc87 := NB343_341.out; obtain ⟨hcz88_0, hcz88_1, hfz88_0, hfz88_1⟩ := cl2 BK341.out; obtain ⟨hcz89_0, hcz89_1, hcz89_2, hcz89_3, hcz89_4, hfz89_0, hfz89_1, hfz89_2, hfz89_3, hfz89_4⟩ := cl5 BK342.out; obtain ⟨hcz90_0, hcz90_1, hfz90_0, hfz90_1⟩ := cl2 BK343.out; obtain ⟨hcz91_0, hcz91_1, hcz91_2, hcz91_3, hcz91_4, hfz91_0, hfz91_1, hfz91_2, hfz91_3, hfz91_4⟩ := cl5 BK344.out) | (go_at_call 32; (with_reducible refine (impl_SameTree.calls k _ _ l0_0 _ _ l0_1 a1_3 _ _ l2_0 _ _ l2_1 a3_3 false _ ?side1 ?side2 ?side3 ?side4 ?side5 ?side6 ?side7 ?side8 A7.out).mono ?_); (case side1 => exact Kd.C_below HR0_0.out (be w)); (case side2 => exact HC0_0.out); (case side3 => exact Kd.C_below HR0_1.out (be w)); (case side4 => exact HC0_1.out); (case side5 => exact Kd.C_below HR2_0.out (be w)); (case side6 => exact HC2_0.out); (case side7 => exact Kd.C_below HR2_1.out (be w)); (case side8 => exact HC2_1.out); rintro e w92 ⟨rfl, hb⟩; replace HB := As.mk (below_step (be w) hb); (try clear hb); (try clear hb2); (try clear hk); (try clear hi)))
  go_ret
  exact ⟨by first | rfl | (simp [errW_none, errW_some] <;> rfl) | (simp [*, errW_none, errW_some] <;> rfl), be w⟩
 subst c8
 rw [if_pos rfl] at H
 by_cases c9 : ((decide (a1_4 < 0)) != (decide (a3_4 < 0))) = true
 ·
  rw [if_pos c9] at H
  have c9b0 : ((decide (a1_4 < 0)) != (decide (a3_4 < 0))) = true := c9
  (try (have c9b1 : decide ((decide (a1_4 < 0)) = (decide (a3_4 < 0))) = false := by simpa using c9))
  (try (have c9b2 : ((decide (a1_4 < 0)) == (decide (a3_4 < 0))) = false := by simpa using c9))
  (try (have c9b3 : ¬ ((decide (a1_4 < 0)) = (decide (a3_4 < 0))) := by simpa using c9))
  clear c9
  obtain rfl := Option.some.inj H
  go_enter Tryd.func72, Tryd.ntmps72
  go_wp2_with (first | ((with_reducible refine gate_dst (N := 4) rfl ?_); refine box_event ?hg (N := 4) ?hd (cs := #[.slice A0_0 l0_0.length c0_0, .slice A0_1 l0_1.length c0_1]) (t := 52) ?hr ?_; (case hd => rfl); (case hg => rfl); (case hr => first | (go_simp; done) | (go_simp; rfl)); intro gb341 hg w10 hbox hb; have BK341 := As.mk (hbox); have GW341 := As.mk (gs w hg); have GE341 := As.mk (gs w hg); replace HB := As.mk (below_step (be w) hb); clear hb hbox hg) | ((with_reducible refine gate_dst (N := 5) rfl ?_); refine box_event ?hg (N := 5) ?hd (cs := #[.string a1_0, .slice A1_1 l1_1.length c1_1, .int .i64 a1_2, .int .i64 a1_3, .int .i64 a1_4]) (t := 93) ?hr ?_; (case hd => rfl); (case hg => rfl); (case hr => first | (go_simp; done) | (go_simp; rfl)); intro gb342 hg w11 hbox hb; have BK342 := As.mk (hbox); have GW342 := As.mk (gs w hg); have GE342 := As.mk (gs w hg); replace HB := As.mk (below_step (be w) hb); have NB341_342 := As.mk (nl hg (bx BK341.out)); have NB342_341 := As.mk (ng hg (bx BK341.out)); replace BK341 := As.mk (blk_below (bx BK341.out) hb); clear hb hbox hg) | ((with_reducible refine gate_dst (N := 6) rfl ?_); refine box_event ?hg (N := 6) ?hd (cs := #[.slice A2_0 l2_0.length c2_0, .slice A2_1 l2_1.length c2_1]) (t := 52) ?hr ?_; (case hd => rfl); (case hg => rfl); (case hr => first | (go_simp; done) | (go_simp; rfl)); intro gb343 hg w12 hbox hb; have BK343 := As.mk (hbox); have GW343 := As.mk (gs w hg); have GE343 := As.mk (gs w hg); replace HB := As.mk (below_step (be w) hb); have NB341_343 := As.mk (nl hg (bx BK341.out)); have NB343_341 := As.mk (ng hg (bx BK341.out)); replace BK341 := As.mk (blk_below (bx BK341.out) hb); have NB342_343 := As.mk (nl hg (bx BK342.out)); have NB343_342 := As.mk (ng hg (bx BK342.out)); replace BK342 := As.mk (blk_below (bx BK342.out) hb); clear hb hbox hg) | ((with_reducible refine gate_dst (N := 7) rfl ?_); refine box_event ?hg (N := 7) ?hd (cs := #[.string a3_0, .slice A3_1 l3_1.length c3_1, .int .i64 a3_2, .int .i64 a3_3, .int .i64 a3_4]) (t := 93) ?hr ?_; (case hd => rfl); (case hg => rfl); (case hr => first | (go_simp; done) | (go_simp; rfl)); intro gb344 hg w13 hbox hb; have BK344 := As.mk (hbox); have GW344 := As.mk (gs w hg); have GE344 := As.mk (gs w hg); replace HB := As.mk (below_step (be w) hb); have NB341_344 := As.mk (nl hg (bx BK341.out)); have NB344_341 := As.mk (ng hg (bx BK341.out)); replace BK341 := As.mk (blk_below (bx BK341.out) hb); have NB342_344 := As.mk (nl hg (bx BK342.out)); have NB344_342 := As.mk (ng hg (bx BK342.out)); replace BK342 := As.mk (blk_below (bx BK342.out) hb); have NB343_344 := As.mk (nl hg (bx BK343.out)); have NB344_343 := As.mk (ng hg (bx BK343.out)); replace BK343 := As.mk (blk_below (bx BK343.out) hb); clear hb hbox hg; have hnb14 := NB342_341.out; have hnc14 := NB341_342.out; have hnb15 := NB342_343.out; have hnc15 := NB343_342.out; have hnb16 := NB342_344.out; have hnc16 := NB344_342.out; obtain ⟨hcz17_0, hcz17_1, hcz17_2, hcz17_3, hcz17_4, hfz17_0, hfz17_1, hfz17_2, hfz17_3, hfz17_4⟩ := cl5 BK342.out; have hnb18 := NB344_341.out; have hnc18 := NB341_344.out; have hnb19 := NB344_343.out; have hnc19 := NB343_344.out; obtain ⟨hcz20_0, hcz20_1, hcz20_2, hcz20_3, hcz20_4, hfz20_0, hfz20_1, hfz20_2, hfz20_3, hfz20_4⟩ := cl5 BK344.out) | ((with_reducible refine gate_callee (f := 99) rfl ?_); refine goesL_ (some 11) rfl rfl Tryd.func99 (by kernel_rfl) rfl #[.agg #[.string a1_0, .slice A1_1 l1_1.length c1_1, .int .i64 a1_2, .int .i64 a1_3, .int .i64 a1_4], .agg #[.string a3_0, .slice A3_1 l3_1.length c3_1, .int .i64 a3_2, .int .i64 a3_3, .int .i64 a3_4]] rfl (by (try simp only [lm]); first | done | rfl | (simp only [List.length_drop, List.length_take]; rfl)) ?_; (with_reducible refine (impl_sameHead.calls k a1_0 _ _ l1_1 a1_2 a1_3 a1_4 a3_0 _ _ l3_1 a3_2 a3_3 a3_4 true _ ?side1 ?side2 ?side3 ?side4 A5.out).mono ?_); (case side1 => exact Kd.C_below HR1_1.out (be w)); (case side2 => exact HC1_1.out); (case side3 => exact Kd.C_below HR3_1.out (be w)); (case side4 => exact HC3_1.out); rintro e w21 ⟨rfl, hb⟩; refine ⟨_, rfl, ?_⟩; replace BK341 := As.mk (blk_below (bx BK341.out) hb); replace BK342 := As.mk (blk_below (bx BK342.out) hb); replace BK343 := As.mk (blk_below (bx BK343.out) hb); replace BK344 := As.mk (blk_below (bx BK344.out) hb); replace HB := As.mk (below_step (be w) hb); (try clear hb); (try clear hb2); (try clear hk); (try clear hi); have hnb22 := NB341_343.out; have hnc22 := NB343_341.out; obtain ⟨hcz23_0, hcz23_1, hfz23_0, hfz23_1⟩ := cl2 BK341.out; obtain ⟨hcz24_0, hcz24_1, hcz24_2, hcz24_3, hcz24_4, hfz24_0, hfz24_1, hfz24_2, hfz24_3, hfz24_4⟩ := cl5 BK342.out; obtain ⟨hcz25_0, hcz25_1, hfz25_0, hfz25_1⟩ := cl2 BK343.out; obtain ⟨hcz26_0, hcz26_1, hcz26_2, hcz26_3, hcz26_4, hfz26_0, hfz26_1, hfz26_2, hfz26_3, hfz26_4⟩ := cl5 BK344.out) | (go_at_call 32; (with_reducible refine (impl_SameTree.calls k _ _ l0_0 _ _ l0_1 a1_3 _ _ l2_0 _ _ l2_1 a3_3 true _ ?side1 ?side2 ?side3 ?side4 ?side5 ?side6 ?side7 ?side8 A7.out).mono ?_); (case side1 => exact Kd.C_below HR0_0.out (be w)); (case side2 => exact HC0_0.out); (case side3 => exact Kd.C_below HR0_1.out (be w)); (case side4 => exact HC0_1.out); (case side5 => exact Kd.C_below HR2_0.out (be w)); (case side6 => exact HC2_0.out); (case side7 => exact Kd.C_below HR2_1.out (be w)); (case side8 => exact HC2_1.out); rintro e w27 ⟨rfl, hb⟩; replace BK342 := As.mk (blk_below (bx BK342.out) hb); replace BK344 := As.mk (blk_below (bx BK344.out) hb); replace HB := As.mk (below_step (be w) hb); (try clear hb); (try clear hb2); (try clear hk); (try clear hi); obtain ⟨hcz28_0, hcz28_1, hcz28_2, hcz28_3, hcz28_4, hfz28_0, hfz28_1, hfz28_2, hfz28_3, hfz28_4⟩ := cl5 BK342.out; obtain ⟨hcz29_0, hcz29_1, hcz29_2, hcz29_3, hcz29_4, hfz29_0, hfz29_1, hfz29_2, hfz29_3, hfz29_4⟩ := cl5 BK344.out))
  go_ret
  exact ⟨by first | rfl | (simp [errW_none, errW_some] <;> rfl) | (simp [*, errW_none, errW_some] <;> rfl), be w⟩
 rw [if_neg c9] at H
 have c9b0 : ((decide (a1_4 < 0)) != (decide (a3_4 < 0))) = false := by simpa using c9
 (try (have c9b1 : decide ((decide (a1_4 < 0)) = (decide (a3_4 < 0))) = true := by simpa using c9))
 (try (have c9b2 : ((decide (a1_4 < 0)) == (decide (a3_4 < 0))) = true := by simpa using c9))
 clear c9
 by_cases c30 : a1_4 < 0
 ·
  rw [if_pos c30] at H
  have c30b0 : decide (a1_4 < 0) = true := decide_eq_true c30
  have c30b9 : (decide (a3_4 < 0)) = true := dec_same c9b2 c30b0
  clear c30
  obtain rfl := Option.some.inj H
  go_enter Tryd.func72, Tryd.ntmps72
  go_wp2_with (first | ((with_reducible refine gate_dst (N := 4) rfl ?_); refine box_event ?hg (N := 4) ?hd (cs := #[.slice A0_0 l0_0.length c0_0, .slice A0_1 l0_1.length c0_1]) (t := 52) ?hr ?_; (case hd => rfl); (case hg => rfl); (case hr => first | (go_simp; done) | (go_simp; rfl)); intro gb341 hg w31 hbox hb; have BK341 := As.mk (hbox); have GW341 := As.mk (gs w hg); have GE341 := As.mk (gs w hg); replace HB := As.mk (below_step (be w) hb); clear hb hbox hg) | ((with_reducible refine gate_dst (N := 5) rfl ?_); refine box_event ?hg (N := 5) ?hd (cs := #[.string a1_0, .slice A1_1 l1_1.length c1_1, .int .i64 a1_2, .int .i64 a1_3, .int .i64 a1_4]) (t := 93) ?hr ?_; (case hd => rfl); (case hg => rfl); (case hr => first | (go_simp; done) | (go_simp; rfl)); intro gb342 hg w32 hbox hb; have BK342 := As.mk (hbox); have GW342 := As.mk (gs w hg); have GE342 := As.mk (gs w hg); replace HB := As.mk (below_step (be w) hb); have NB341_342 := As.mk (nl hg (bx BK341.out)); have NB342_341 := As.mk (ng hg (bx BK341.out)); replace BK341 := As.mk (blk_below (bx BK341.out) hb); clear hb hbox hg) | ((with_reducible refine gate_dst (N := 6) rfl ?_); refine box_event ?hg (N := 6) ?hd (cs := #[.slice A2_0 l2_0.length c2_0, .slice A2_1 l2_1.length c2_1]) (t := 52) ?hr ?_; (case hd => rfl); (case hg => rfl); (case hr => first | (go_simp; done) | (go_simp; rfl)); intro gb343 hg w33 hbox hb; have BK343 := As.mk (hbox); have GW343 := As.mk (gs w hg); have GE343 := As.mk (gs w hg); replace HB := As.mk (below_step (be w) hb); have NB341_343 := As.mk (nl hg (bx BK341.out)); have NB343_341 := As.mk (ng hg (bx BK341.out)); replace BK341 := As.mk (blk_below (bx BK341.out) hb); have NB342_343 := As.mk (nl hg (bx BK342.out)); have NB343_342 := As.mk (ng hg (bx BK342.out)); replace BK342 := As.mk (blk_below (bx BK342.out) hb); clear hb hbox hg) | ((with_reducible refine gate_dst (N := 7) rfl ?_); refine box_event ?hg (N := 7) ?hd (cs := #[.string a3_0, .slice A3_1 l3_1.length c3_1, .int .i64 a3_2, .int .i64 a3_3, .int .i64 a3_4]) (t := 93) ?hr ?_; (case hd => rfl); (case hg => rfl); (case hr => first | (go_simp; done) | (go_simp; rfl)); intro gb344 hg w34 hbox hb; have BK344 := As.mk (hbox); have GW344 := As.mk (gs w hg); have GE344 := As.mk (gs w hg); replace HB := As.mk (below_step (be w) hb); have NB341_344 := As.mk (nl hg (bx BK341.out)); have NB344_341 := As.mk (ng hg (bx BK341.out)); replace BK341 := As.mk (blk_below (bx BK341.out) hb); have NB342_344 := As.mk (nl hg (bx BK342.out)); have NB344_342 := As.mk (ng hg (bx BK342.out)); replace BK342 := As.mk (blk_below (bx BK342.out) hb); have NB343_344 := As.mk (nl hg (bx BK343.out)); have NB344_343 := As.mk (ng hg (bx BK343.out)); replace BK343 := As.mk (blk_below (bx BK343.out) hb); clear hb hbox hg; have hnb35 := NB342_341.out; have hnc35 := NB341_342.out; have hnb36 := NB342_343.out; have hnc36 := NB343_342.out; have hnb37 := NB342_344.out; have hnc37 := NB344_342.out; obtain ⟨hcz38_0, hcz38_1, hcz38_2, hcz38_3, hcz38_4, hfz38_0, hfz38_1, hfz38_2, hfz38_3, hfz38_4⟩ := cl5 BK342.out; have hnb39 := NB344_341.out; have hnc39 := NB341_344.out; have hnb40 := NB344_343.out; have hnc40 := NB343_344.out; obtain ⟨hcz41_0, hcz41_1, hcz41_2, hcz41_3, hcz41_4, hfz41_0, hfz41_1, hfz41_2, hfz41_3, hfz41_4⟩ := cl5 BK344.out) | ((with_reducible refine gate_callee (f := 99) rfl ?_); refine goesL_ (some 11) rfl rfl Tryd.func99 (by kernel_rfl) rfl #[.agg #[.string a1_0, .slice A1_1 l1_1.length c1_1, .int .i64 a1_2, .int .i64 a1_3, .int .i64 a1_4], .agg #[.string a3_0, .slice A3_1 l3_1.length c3_1, .int .i64 a3_2, .int .i64 a3_3, .int .i64 a3_4]] rfl (by (try simp only [lm]); first | done | rfl | (simp only [List.length_drop, List.length_take]; rfl)) ?_; (with_reducible refine (impl_sameHead.calls k a1_0 _ _ l1_1 a1_2 a1_3 a1_4 a3_0 _ _ l3_1 a3_2 a3_3 a3_4 true _ ?side1 ?side2 ?side3 ?side4 A5.out).mono ?_); (case side1 => exact Kd.C_below HR1_1.out (be w)); (case side2 => exact HC1_1.out); (case side3 => exact Kd.C_below HR3_1.out (be w)); (case side4 => exact HC3_1.out); rintro e w42 ⟨rfl, hb⟩; refine ⟨_, rfl, ?_⟩; replace BK341 := As.mk (blk_below (bx BK341.out) hb); replace BK342 := As.mk (blk_below (bx BK342.out) hb); replace BK343 := As.mk (blk_below (bx BK343.out) hb); replace BK344 := As.mk (blk_below (bx BK344.out) hb); replace HB := As.mk (below_step (be w) hb); (try clear hb); (try clear hb2); (try clear hk); (try clear hi); have hnb43 := NB341_343.out; have hnc43 := NB343_341.out; obtain ⟨hcz44_0, hcz44_1, hfz44_0, hfz44_1⟩ := cl2 BK341.out; obtain ⟨hcz45_0, hcz45_1, hcz45_2, hcz45_3, hcz45_4, hfz45_0, hfz45_1, hfz45_2, hfz45_3, hfz45_4⟩ := cl5 BK342.out; obtain ⟨hcz46_0, hcz46_1, hfz46_0, hfz46_1⟩ := cl2 BK343.out; obtain ⟨hcz47_0, hcz47_1, hcz47_2, hcz47_3, hcz47_4, hfz47_0, hfz47_1, hfz47_2, hfz47_3, hfz47_4⟩ := cl5 BK344.out) | (go_at_call 32; (with_reducible refine (impl_SameTree.calls k _ _ l0_0 _ _ l0_1 a1_3 _ _ l2_0 _ _ l2_1 a3_3 true _ ?side1 ?side2 ?side3 ?side4 ?side5 ?side6 ?side7 ?side8 A7.out).mono ?_); (case side1 => exact Kd.C_below HR0_0.out (be w)); (case side2 => exact HC0_0.out); (case side3 => exact Kd.C_below HR0_1.out (be w)); (case side4 => exact HC0_1.out); (case side5 => exact Kd.C_below HR2_0.out (be w)); (case side6 => exact HC2_0.out); (case side7 => exact Kd.C_below HR2_1.out (be w)); (case side8 => exact HC2_1.out); rintro e w48 ⟨rfl, hb⟩; replace BK342 := As.mk (blk_below (bx BK342.out) hb); replace BK344 := As.mk (blk_below (bx BK344.out) hb); replace HB := As.mk (below_step (be w) hb); (try clear hb); (try clear hb2); (try clear hk); (try clear hi); obtain ⟨hcz49_0, hcz49_1, hcz49_2, hcz49_3, hcz49_4, hfz49_0, hfz49_1, hfz49_2, hfz49_3, hfz49_4⟩ := cl5 BK342.out; obtain ⟨hcz50_0, hcz50_1, hcz50_2, hcz50_3, hcz50_4, hfz50_0, hfz50_1, hfz50_2, hfz50_3, hfz50_4⟩ := cl5 BK344.out))
  go_ret
  exact ⟨by first | rfl | (simp [errW_none, errW_some] <;> rfl) | (simp [*, errW_none, errW_some] <;> rfl), be w⟩
 rw [if_neg c30] at H
 have c30b0 : decide (a1_4 < 0) = false := decide_eq_false c30
 have c30b9 : (decide (a3_4 < 0)) = false := dec_same c9b2 c30b0
 clear c30
 obtain ⟨t347, A510, H⟩ := Option.bind_eq_some_iff.mp H
 try dsimp only at H
 have A51 := As.mk A510
 clear A510
 obtain rfl := Option.some.inj H
 go_enter Tryd.func72, Tryd.ntmps72
 go_wp2_with (first | ((with_reducible refine gate_dst (N := 4) rfl ?_); refine box_event ?hg (N := 4) ?hd (cs := #[.slice A0_0 l0_0.length c0_0, .slice A0_1 l0_1.length c0_1]) (t := 52) ?hr ?_; (case hd => rfl); (case hg => rfl); (case hr => first | (go_simp; done) | (go_simp; rfl)); intro gb341 hg w52 hbox hb; have BK341 := As.mk (hbox); have GW341 := As.mk (gs w hg); have GE341 := As.mk (gs w hg); replace HB := As.mk (below_step (be w) hb); clear hb hbox hg) | ((with_reducible refine gate_dst (N := 5) rfl ?_); refine box_event ?hg (N := 5) ?hd (cs := #[.string a1_0, .slice A1_1 l1_1.length c1_1, .int .i64 a1_2, .int .i64 a1_3, .int .i64 a1_4]) (t := 93) ?hr ?_; (case hd => rfl); (case hg => rfl); (case hr => first | (go_simp; done) | (go_simp; rfl)); intro gb342 hg w53 hbox hb; have BK342 := As.mk (hbox); have GW342 := As.mk (gs w hg); have GE342 := As.mk (gs w hg); replace HB := As.mk (below_step (be w) hb); have NB341_342 := As.mk (nl hg (bx BK341.out)); have NB342_341 := As.mk (ng hg (bx BK341.out)); replace BK341 := As.mk (blk_below (bx BK341.out) hb); clear hb hbox hg) | ((with_reducible refine gate_dst (N := 6) rfl ?_); refine box_event ?hg (N := 6) ?hd (cs := #[.slice A2_0 l2_0.length c2_0, .slice A2_1 l2_1.length c2_1]) (t := 52) ?hr ?_; (case hd => rfl); (case hg => rfl); (case hr => first | (go_simp; done) | (go_simp; rfl)); intro gb343 hg w54 hbox hb; have BK343 := As.mk (hbox); have GW343 := As.mk (gs w hg); have GE343 := As.mk (gs w hg); replace HB := As.mk (below_step (be w) hb); have NB341_343 := As.mk (nl hg (bx BK341.out)); have NB343_341 := As.mk (ng hg (bx BK341.out)); replace BK341 := As.mk (blk_below (bx BK341.out) hb); have NB342_343 := As.mk (nl hg (bx BK342.out)); have NB343_342 := As.mk (ng hg (bx BK342.out)); replace BK342 := As.mk (blk_below (bx BK342.out) hb); clear hb hbox hg) | ((with_reducible refine gate_dst (N := 7) rfl ?_); refine box_event ?hg (N := 7) ?hd (cs := #[.string a3_0, .slice A3_1 l3_1.length c3_1, .int .i64 a3_2, .int .i64 a3_3, .int .i64 a3_4]) (t := 93) ?hr ?_; (case hd => rfl); (case hg => rfl); (case hr => first | (go_simp; done) | (go_simp; rfl)); intro gb344 hg w55 hbox hb; have BK344 := As.mk (hbox); have GW344 := As.mk (gs w hg); have GE344 := As.mk (gs w hg); replace HB := As.mk (below_step (be w) hb); have NB341_344 := As.mk (nl hg (bx BK341.out)); have NB344_341 := As.mk (ng hg (bx BK341.out)); replace BK341 := As.mk (blk_below (bx BK341.out) hb); have NB342_344 := As.mk (nl hg (bx BK342.out)); have NB344_342 := As.mk (ng hg (bx BK342.out)); replace BK342 := As.mk (blk_below (bx BK342.out) hb); have NB343_344 := As.mk (nl hg (bx BK343.out)); have NB344_343 := As.mk (ng hg (bx BK343.out)); replace BK343 := As.mk (blk_below (bx BK343.out) hb); clear hb hbox hg; have hnb56 := NB342_341.out; have hnc56 := NB341_342.out; have hnb57 := NB342_343.out; have hnc57 := NB343_342.out; have hnb58 := NB342_344.out; have hnc58 := NB344_342.out; obtain ⟨hcz59_0, hcz59_1, hcz59_2, hcz59_3, hcz59_4, hfz59_0, hfz59_1, hfz59_2, hfz59_3, hfz59_4⟩ := cl5 BK342.out; have hnb60 := NB344_341.out; have hnc60 := NB341_344.out; have hnb61 := NB344_343.out; have hnc61 := NB343_344.out; obtain ⟨hcz62_0, hcz62_1, hcz62_2, hcz62_3, hcz62_4, hfz62_0, hfz62_1, hfz62_2, hfz62_3, hfz62_4⟩ := cl5 BK344.out) | ((with_reducible refine gate_callee (f := 99) rfl ?_); refine goesL_ (some 11) rfl rfl Tryd.func99 (by kernel_rfl) rfl #[.agg #[.string a1_0, .slice A1_1 l1_1.length c1_1, .int .i64 a1_2, .int .i64 a1_3, .int .i64 a1_4], .agg #[.string a3_0, .slice A3_1 l3_1.length c3_1, .int .i64 a3_2, .int .i64 a3_3, .int .i64 a3_4]] rfl (by (try simp only [lm]); first | done | rfl | (simp only [List.length_drop, List.length_take]; rfl)) ?_; (with_reducible refine (impl_sameHead.calls k a1_0 _ _ l1_1 a1_2 a1_3 a1_4 a3_0 _ _ l3_1 a3_2 a3_3 a3_4 true _ ?side1 ?side2 ?side3 ?side4 A5.out).mono ?_); (case side1 => exact Kd.C_below HR1_1.out (be w)); (case side2 => exact HC1_1.out); (case side3 => exact Kd.C_below HR3_1.out (be w)); (case side4 => exact HC3_1.out); rintro e w63 ⟨rfl, hb⟩; refine ⟨_, rfl, ?_⟩; replace BK341 := As.mk (blk_below (bx BK341.out) hb); replace BK342 := As.mk (blk_below (bx BK342.out) hb); replace BK343 := As.mk (blk_below (bx BK343.out) hb); replace BK344 := As.mk (blk_below (bx BK344.out) hb); replace HB := As.mk (below_step (be w) hb); (try clear hb); (try clear hb2); (try clear hk); (try clear hi); have hnb64 := NB341_343.out; have hnc64 := NB343_341.out; obtain ⟨hcz65_0, hcz65_1, hfz65_0, hfz65_1⟩ := cl2 BK341.out; obtain ⟨hcz66_0, hcz66_1, hcz66_2, hcz66_3, hcz66_4, hfz66_0, hfz66_1, hfz66_2, hfz66_3, hfz66_4⟩ := cl5 BK342.out; obtain ⟨hcz67_0, hcz67_1, hfz67_0, hfz67_1⟩ := cl2 BK343.out; obtain ⟨hcz68_0, hcz68_1, hcz68_2, hcz68_3, hcz68_4, hfz68_0, hfz68_1, hfz68_2, hfz68_3, hfz68_4⟩ := cl5 BK344.out) | (go_at_call 32; (with_reducible refine (impl_SameTree.calls k _ _ l0_0 _ _ l0_1 a1_3 _ _ l2_0 _ _ l2_1 a3_3 true _ ?side1 ?side2 ?side3 ?side4 ?side5 ?side6 ?side7 ?side8 A7.out).mono ?_); (case side1 => exact Kd.C_below HR0_0.out (be w)); (case side2 => exact HC0_0.out); (case side3 => exact Kd.C_below HR0_1.out (be w)); (case side4 => exact HC0_1.out); (case side5 => exact Kd.C_below HR2_0.out (be w)); (case side6 => exact HC2_0.out); (case side7 => exact Kd.C_below HR2_1.out (be w)); (case side8 => exact HC2_1.out); rintro e w69 ⟨rfl, hb⟩; replace BK341 := As.mk (blk_below (bx BK341.out) hb); replace BK342 := As.mk (blk_below (bx BK342.out) hb); replace BK343 := As.mk (blk_below (bx BK343.out) hb); replace BK344 := As.mk (blk_below (bx BK344.out) hb); replace HB := As.mk (below_step (be w) hb); (try clear hb); (try clear hb2); (try clear hk); (try clear hi); obtain ⟨hcz70_0, hcz70_1, hcz70_2, hcz70_3, hcz70_4, hfz70_0, hfz70_1, hfz70_2, hfz70_3, hfz70_4⟩ := cl5 BK342.out; obtain ⟨hcz71_0, hcz71_1, hcz71_2, hcz71_3, hcz71_4, hfz71_0, hfz71_1, hfz71_2, hfz71_3, hfz71_4⟩ := cl5 BK344.out; obtain ⟨hcz72_0, hcz72_1, hfz72_0, hfz72_1⟩ := cl2 BK341.out; obtain ⟨hcz73_0, hcz73_1, hfz73_0, hfz73_1⟩ := cl2 BK343.out) | (go_at_call 32; (with_reducible refine (impl_SameTree.calls k _ _ l0_0 _ _ l0_1 a1_4 _ _ l2_0 _ _ l2_1 a3_4 t347 _ ?side1 ?side2 ?side3 ?side4 ?side5 ?side6 ?side7 ?side8 A51.out).mono ?_); (case side1 => exact Kd.C_below HR0_0.out (be w)); (case side2 => exact HC0_0.out); (case side3 => exact Kd.C_below HR0_1.out (be w)); (case side4 => exact HC0_1.out); (case side5 => exact Kd.C_below HR2_0.out (be w)); (case side6 => exact HC2_0.out); (case side7 => exact Kd.C_below HR2_1.out (be w)); (case side8 => exact HC2_1.out); rintro e w74 ⟨rfl, hb⟩; replace HB := As.mk (below_step (be w) hb); (try clear hb); (try clear hb2); (try clear hk); (try clear hi)))
 go_ret
 exact ⟨by first | rfl | (simp [errW_none, errW_some] <;> rfl) | (simp [*, errW_none, errW_some] <;> rfl), be w⟩
end Go.Proofs.YtmdpggibcjkfoaaDoor.PFnExactSameProgram
