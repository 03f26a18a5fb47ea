/- Written by a program of this session (a turned copy of the kit's print): a contract for each Go function. No condition beside those in each statement. -/
import Derived.Test.YtmdpggibcjkfoaaDoorPFnExactSameProgramx0
import Derived.Test.YtmdpggibcjkfoaaDoorPFnExactSameProgramx1
import Derived.Test.YtmdpggibcjkfoaaDoorPFnExactSameProgramx9
namespace Go.Proofs.YtmdpggibcjkfoaaDoor.PFnExactSameProgram
open Go.RowKit Go.Proofs.YtmdpggibcjkfoaaDoor.Given Go.Proofs.YtmdpggibcjkfoaaDoorW.PrintWords Go.Proofs.YtmdpggibcjkfoaaDoorW.PrintLast Go.Proofs.YtmdpggibcjkfoaaDoorW.PrintMore
attribute [local go_sem] max2_int min2_int max_two min_two max_three min_three max_four min_four   -- for this text's walks alone
set_option linter.unusedVariables false
set_option linter.unusedSimpArgs false

attribute [local go_sem high] eqA95
/-! ### spec_SameProgram: function 34 -/
mutual
def spec_SameProgram.l0 : Nat → Int → List (S64) → List (S93) → List (S64) → List (S93) → Option (Bool)
 | 0, _, _, _, _, _ => none
 | k + 1, x5, x268000, x268001, x269000, x269001 => if x5 < (x268001.length : Int) then (if 0 ≤ x5 then (if x5 < (x269001.length : Int) then (if ((rd_T93 x268001 x5).f0).toList = ((rd_T93 x269001 x5).f0).toList then (if ((rd_T93 x268001 x5).f2) = ((rd_T93 x269001 x5).f2) then (if (((rd_T93 x268001 x5).f1).length : Int) = (((rd_T93 x269001 x5).f1).length : Int) then (spec_SameProgram.j1 k x5 ((decide (((rd_T93 x268001 x5).f4) < 0)) != (decide (((rd_T93 x269001 x5).f4) < 0))) x268000 x268001 x269000 x269001 ((rd_T93 x268001 x5).f0) ((rd_T93 x268001 x5).f1) ((rd_T93 x268001 x5).f2) ((rd_T93 x268001 x5).f3) ((rd_T93 x268001 x5).f4) ((rd_T93 x269001 x5).f0) ((rd_T93 x269001 x5).f1) ((rd_T93 x269001 x5).f2) ((rd_T93 x269001 x5).f3) ((rd_T93 x269001 x5).f4)) else (spec_SameProgram.j1 k x5 true x268000 x268001 x269000 x269001 ((rd_T93 x268001 x5).f0) ((rd_T93 x268001 x5).f1) ((rd_T93 x268001 x5).f2) ((rd_T93 x268001 x5).f3) ((rd_T93 x268001 x5).f4) ((rd_T93 x269001 x5).f0) ((rd_T93 x269001 x5).f1) ((rd_T93 x269001 x5).f2) ((rd_T93 x269001 x5).f3) ((rd_T93 x269001 x5).f4))) else (spec_SameProgram.j1 k x5 true x268000 x268001 x269000 x269001 ((rd_T93 x268001 x5).f0) ((rd_T93 x268001 x5).f1) ((rd_T93 x268001 x5).f2) ((rd_T93 x268001 x5).f3) ((rd_T93 x268001 x5).f4) ((rd_T93 x269001 x5).f0) ((rd_T93 x269001 x5).f1) ((rd_T93 x269001 x5).f2) ((rd_T93 x269001 x5).f3) ((rd_T93 x269001 x5).f4))) else (spec_SameProgram.j1 k x5 true x268000 x268001 x269000 x269001 ((rd_T93 x268001 x5).f0) ((rd_T93 x268001 x5).f1) ((rd_T93 x268001 x5).f2) ((rd_T93 x268001 x5).f3) ((rd_T93 x268001 x5).f4) ((rd_T93 x269001 x5).f0) ((rd_T93 x269001 x5).f1) ((rd_T93 x269001 x5).f2) ((rd_T93 x269001 x5).f3) ((rd_T93 x269001 x5).f4))) else (none)) else (none)) else (some true)
def spec_SameProgram.j1 : Nat → Int → Bool → List (S64) → List (S93) → List (S64) → List (S93) → ByteArray → List (S95) → Int → Int → Int → ByteArray → List (S95) → Int → Int → Int → Option (Bool)
 | 0, _, _, _, _, _, _, _, _, _, _, _, _, _, _, _, _ => none
 | k + 1, x5, x62, x268000, x268001, x269000, x269001, x271000, x271001, x271002, x271003, x271004, x273000, x273001, x273002, x273003, x273004 => if x62 = true then (some false) else (spec_SameProgram.l1 k x5 0 x268000 x268001 x269000 x269001 x271000 x271001 x271002 x271003 x271004 x273000 x273001 x273002 x273003 x273004)
def spec_SameProgram.l1 : Nat → Int → Int → List (S64) → List (S93) → List (S64) → List (S93) → ByteArray → List (S95) → Int → Int → Int → ByteArray → List (S95) → Int → Int → Int → Option (Bool)
 | 0, _, _, _, _, _, _, _, _, _, _, _, _, _, _, _, _ => none
 | k + 1, x5, x8, x268000, x268001, x269000, x269001, x271000, x271001, x271002, x271003, x271004, x273000, x273001, x273002, x273003, x273004 => if x8 < (x271001.length : Int) then (if 0 ≤ x8 then (if x8 < (x273001.length : Int) then (if (!((((rd_T95 x271001 x8).f0).toList) == (((rd_T95 x273001 x8).f0).toList)) || (!(((rd_T95 x271001 x8).f1) == ((rd_T95 x273001 x8).f1)))) = true then (some false) else (spec_SameProgram.l1 k x5 (wrap64 (x8 + 1)) x268000 x268001 x269000 x269001 x271000 x271001 x271002 x271003 x271004 x273000 x273001 x273002 x273003 x273004)) else (none)) else (none)) else ((spec_SameTree.f k x268000 x268001 x271003 x269000 x269001 x273003).bind fun t275 => (if t275 = true then (if x271004 ≥ 0 then ((spec_SameTree.f k x268000 x268001 x271004 x269000 x269001 x273004).bind fun t276 => (if t276 = true then (spec_SameProgram.l0 k (wrap64 (x5 + 1)) x268000 x268001 x269000 x269001) else (some false))) else (spec_SameProgram.l0 k (wrap64 (x5 + 1)) x268000 x268001 x269000 x269001)) else (some false)))
end
def spec_SameProgram.f (k : Nat) (l0_0 : List (S64)) (l0_1 : List (S93)) (l1_0 : List (S64)) (l1_1 : List (S93)) : Option (Bool) := if (l0_1.length : Int) = (l1_1.length : Int) then (spec_SameProgram.l0 k 0 l0_0 l0_1 l1_0 l1_1) else (some false)
theorem spec_SameProgram.mono_l : ∀ k, (∀ y0 y1 y2 y3 y4, LeO (spec_SameProgram.l0 k y0 y1 y2 y3 y4) (spec_SameProgram.l0 (k + 1) y0 y1 y2 y3 y4)) ∧ (∀ y0 y1 y2 y3 y4 y5 y6 y7 y8 y9 y10 y11 y12 y13 y14 y15, LeO (spec_SameProgram.j1 k y0 y1 y2 y3 y4 y5 y6 y7 y8 y9 y10 y11 y12 y13 y14 y15) (spec_SameProgram.j1 (k + 1) y0 y1 y2 y3 y4 y5 y6 y7 y8 y9 y10 y11 y12 y13 y14 y15)) ∧ (∀ y0 y1 y2 y3 y4 y5 y6 y7 y8 y9 y10 y11 y12 y13 y14 y15, LeO (spec_SameProgram.l1 k y0 y1 y2 y3 y4 y5 y6 y7 y8 y9 y10 y11 y12 y13 y14 y15) (spec_SameProgram.l1 (k + 1) y0 y1 y2 y3 y4 y5 y6 y7 y8 y9 y10 y11 y12 y13 y14 y15))
 | 0 => ⟨fun _ _ _ _ _ r h => by simp [spec_SameProgram.l0] at h, fun _ _ _ _ _ _ _ _ _ _ _ _ _ _ _ _ r h => by simp [spec_SameProgram.j1] at h, fun _ _ _ _ _ _ _ _ _ _ _ _ _ _ _ _ r h => by simp [spec_SameProgram.l1] at h⟩
 | k + 1 => by
  obtain ⟨ih0, ih1, ih2⟩ := spec_SameProgram.mono_l k
  refine ⟨?_, ?_, ?_⟩
  ·
   intro y0 y1 y2 y3 y4
   unfold spec_SameProgram.l0
   with_reducible repeat' first | exact ih0 _ _ _ _ _ | exact ih1 _ _ _ _ _ _ _ _ _ _ _ _ _ _ _ _ | exact ih2 _ _ _ _ _ _ _ _ _ _ _ _ _ _ _ _ | exact spec_SameTree.mono _ _ _ _ _ _ _ | exact LeO.refl _ | exact LeO.none _ | refine LeO.ite ?_ ?_ | refine LeO.bind ?_ (fun _ => ?_)
  ·
   intro y0 y1 y2 y3 y4 y5 y6 y7 y8 y9 y10 y11 y12 y13 y14 y15
   unfold spec_SameProgram.j1
   with_reducible repeat' first | exact ih0 _ _ _ _ _ | exact ih1 _ _ _ _ _ _ _ _ _ _ _ _ _ _ _ _ | exact ih2 _ _ _ _ _ _ _ _ _ _ _ _ _ _ _ _ | exact spec_SameTree.mono _ _ _ _ _ _ _ | exact LeO.refl _ | exact LeO.none _ | refine LeO.ite ?_ ?_ | refine LeO.bind ?_ (fun _ => ?_)
  ·
   intro y0 y1 y2 y3 y4 y5 y6 y7 y8 y9 y10 y11 y12 y13 y14 y15
   unfold spec_SameProgram.l1
   with_reducible repeat' first | exact ih0 _ _ _ _ _ | exact ih1 _ _ _ _ _ _ _ _ _ _ _ _ _ _ _ _ | exact ih2 _ _ _ _ _ _ _ _ _ _ _ _ _ _ _ _ | exact spec_SameTree.mono _ _ _ _ _ _ _ | exact LeO.refl _ | exact LeO.none _ | refine LeO.ite ?_ ?_ | refine LeO.bind ?_ (fun _ => ?_)
theorem spec_SameProgram.mono : ∀ a0 a1 a2 a3 k, LeO (spec_SameProgram.f k a0 a1 a2 a3) (spec_SameProgram.f (k + 1) a0 a1 a2 a3) := by
 intro a0 a1 a2 a3 k
 obtain ⟨ih0, ih1, ih2⟩ := spec_SameProgram.mono_l k
 unfold spec_SameProgram.f
 with_reducible repeat' first | exact ih0 _ _ _ _ _ | exact ih1 _ _ _ _ _ _ _ _ _ _ _ _ _ _ _ _ | exact ih2 _ _ _ _ _ _ _ _ _ _ _ _ _ _ _ _ | exact spec_SameTree.mono _ _ _ _ _ _ _ | exact LeO.refl _ | exact LeO.none _ | refine LeO.ite ?_ ?_ | refine LeO.bind ?_ (fun _ => ?_)
set_option maxHeartbeats 8000000 in
set_option maxRecDepth 100000 in
theorem spec_SameProgram.calls (k : Nat) (A0_0 : Option Addr) (c0_0 : Nat) (l0_0 : List (S64)) (A0_1 : Option Addr) (c0_1 : Nat) (l0_1 : List (S93)) (A1_0 : Option Addr) (c1_0 : Nat) (l1_0 : List (S64)) (A1_1 : Option Addr) (c1_1 : Nat) (l1_1 : List (S93)) (r : Bool) (w : World) (hr0_0 : Kd.C k64 w A0_0 l0_0.length l0_0) (hc0_0 : l0_0.length ≤ c0_0) (hr0_1 : Kd.C k93 w A0_1 l0_1.length l0_1) (hc0_1 : l0_1.length ≤ c0_1) (hr1_0 : Kd.C k64 w A1_0 l1_0.length l1_0) (hc1_0 : l1_0.length ≤ c1_0) (hr1_1 : Kd.C k93 w A1_1 l1_1.length l1_1) (hc1_1 : l1_1.length ≤ c1_1) (h : spec_SameProgram.f k l0_0 l0_1 l1_0 l1_1 = some r) :
  Calls Tryd.prog 34 #[.agg #[.slice A0_0 l0_0.length c0_0, .slice A0_1 l0_1.length c0_1], .agg #[.slice A1_0 l1_0.length c1_0, .slice A1_1 l1_1.length c1_1]] w fun e w' => e = .returned (.bool r) ∧ Below w.heap.size w w' := by
 have hu52 := Tryd.underlying52
 have hu93 := Tryd.underlying93
 have hu95 := Tryd.underlying95
 have HR0_0 := As.mk hr0_0
 have HC0_0 := As.mk hc0_0
 clear hr0_0 hc0_0
 have HR0_1 := As.mk hr0_1
 have HC0_1 := As.mk hc0_1
 clear hr0_1 hc0_1
 have HR1_0 := As.mk hr1_0
 have HC1_0 := As.mk hc1_0
 clear hr1_0 hc1_0
 have HR1_1 := As.mk hr1_1
 have HC1_1 := As.mk hc1_1
 clear hr1_1 hc1_1
 have HB := As.mk (Below.refl w.heap.size w)
 have H : (if (l0_1.length : Int) = (l1_1.length : Int) then (spec_SameProgram.l0 k 0 l0_0 l0_1 l1_0 l1_1) else (some false)) = some r := h
 clear h
 by_cases c3 : (l0_1.length : Int) = (l1_1.length : Int)
 rotate_left
 ·
  rw [if_neg c3] at H
  have c3b0 : ((l0_1.length : Int) == (l1_1.length : Int)) = false := beq_eq_false_iff_ne.mpr c3
  have c3b1 : ((l0_1.length : Int) != (l1_1.length : Int)) = true := bne_iff_ne.mpr c3
  have c3b2 : (l0_1.length == l1_1.length) = false := by first | simpa using c3 | (simp at c3 ⊢; omega)
  obtain rfl := Option.some.inj H
  go_enter Tryd.func34, Tryd.ntmps34
  go_wp2_with (first | ((with_reducible refine gate_dst (N := 2) rfl ?_); (try (refine gate_guard (by rfl) ?_; dsimp only)); refine box_event ?hg (N := 2) ?hd (cs := #[.slice A0_0 l0_0.length c0_0, .slice A0_1 l0_1.length c0_1]) (t := 52) ?hr ?_; (case hd => rfl); (case hg => rfl); (case hr => first | (go_simp; done) | (go_simp; rfl)); intro gb267 hg w132 hbox hb; have BK267 := As.mk (hbox); have GW267 := As.mk (gs w hg); have GE267 := As.mk (gs w hg); replace HB := As.mk (below_step (be w) hb); clear hb hbox hg) | ((with_reducible refine gate_dst (N := 3) rfl ?_); (try (refine gate_guard (by rfl) ?_; dsimp only)); refine box_event ?hg (N := 3) ?hd (cs := #[.slice A1_0 l1_0.length c1_0, .slice A1_1 l1_1.length c1_1]) (t := 52) ?hr ?_; (case hd => rfl); (case hg => rfl); (case hr => first | (go_simp; done) | (go_simp; rfl)); intro gb268 hg w133 hbox hb; have BK268 := As.mk (hbox); have GW268 := As.mk (gs w hg); have GE268 := As.mk (gs w hg); replace HB := As.mk (below_step (be w) hb); have NB267_268 := As.mk (nl hg (bx BK267.out)); have NB268_267 := As.mk (ng hg (bx BK267.out)); replace BK267 := As.mk (blk_below (bx BK267.out) hb); clear hb hbox hg; have hnb134 := NB267_268.out; have hnc134 := NB268_267.out; obtain ⟨hcz135_0, hcz135_1, hfz135_0, hfz135_1⟩ := cl2 BK267.out; obtain ⟨hcz136_0, hcz136_1, hfz136_0, hfz136_1⟩ := cl2 BK268.out))
  go_ret
  exact ⟨by first | rfl | (simp [errW_none, errW_some] <;> rfl) | (simp [*, errW_none, errW_some] <;> rfl), be w⟩

 rw [if_pos c3] at H
 have c3b0 : ((l0_1.length : Int) == (l1_1.length : Int)) = true := beq_iff_eq.mpr c3
 have c3b1 : ((l0_1.length : Int) != (l1_1.length : Int)) = false := bne_eq_false_iff_eq.mpr c3
 have c3b2 : (l0_1.length == l1_1.length) = true := by first | simpa using c3 | (simp at c3 ⊢; omega)
 clear c3
 have H' := As.mk H
 clear H
 go_enter Tryd.func34, Tryd.ntmps34
 go_wp2_with (first | ((with_reducible refine gate_dst (N := 2) rfl ?_); (try (refine gate_guard (by rfl) ?_; dsimp only)); refine box_event ?hg (N := 2) ?hd (cs := #[.slice A0_0 l0_0.length c0_0, .slice A0_1 l0_1.length c0_1]) (t := 52) ?hr ?_; (case hd => rfl); (case hg => rfl); (case hr => first | (go_simp; done) | (go_simp; rfl)); intro gb267 hg w4 hbox hb; have BK267 := As.mk (hbox); have GW267 := As.mk (gs w hg); have GE267 := As.mk (gs w hg); replace HB := As.mk (below_step (be w) hb); clear hb hbox hg) | ((with_reducible refine gate_dst (N := 3) rfl ?_); (try (refine gate_guard (by rfl) ?_; dsimp only)); refine box_event ?hg (N := 3) ?hd (cs := #[.slice A1_0 l1_0.length c1_0, .slice A1_1 l1_1.length c1_1]) (t := 52) ?hr ?_; (case hd => rfl); (case hg => rfl); (case hr => first | (go_simp; done) | (go_simp; rfl)); intro gb268 hg w5 hbox hb; have BK268 := As.mk (hbox); have GW268 := As.mk (gs w hg); have GE268 := As.mk (gs w hg); replace HB := As.mk (below_step (be w) hb); have NB267_268 := As.mk (nl hg (bx BK267.out)); have NB268_267 := As.mk (ng hg (bx BK267.out)); replace BK267 := As.mk (blk_below (bx BK267.out) hb); clear hb hbox hg; have hnb6 := NB267_268.out; have hnc6 := NB268_267.out; obtain ⟨hcz7_0, hcz7_1, hfz7_0, hfz7_1⟩ := cl2 BK267.out; obtain ⟨hcz8_0, hcz8_1, hfz8_0, hfz8_1⟩ := cl2 BK268.out))
 go_loopg [5] k (fun kq v5 w' => ∃ (x5_1 : Int), v5 = .int .i64 x5_1 ∧ As (spec_SameProgram.l0 kq x5_1 l0_0 l0_1 l1_0 l1_1 = some r) ∧ As (kq ≤ k) ∧ As (w'.heap[gb267]? = some (.cells #[(.slice A0_0 l0_0.length c0_0), (.slice A0_1 l0_1.length c0_1)] 52 (0, 0))) ∧ As (w'.heap[gb268]? = some (.cells #[(.slice A1_0 l1_0.length c1_0), (.slice A1_1 l1_1.length c1_1)] 52 (0, 0))) ∧ As (Below w.heap.size w w'))
 case atStart => exact ⟨(0), (by first | rfl | (simp; done) | (simp [*]; done)), H', ⟨Nat.le_refl _⟩, ⟨bx BK267.out⟩, ⟨bx BK268.out⟩, ⟨be w⟩⟩
 case round =>
  clear H'
  (try clear c3); (try clear c3b0); (try clear c3b1); (try clear c3b2); (try clear hcz7_0); (try clear hcz7_1); (try clear hcz8_0); (try clear hcz8_1); (try clear hfz7_0); (try clear hfz7_1); (try clear hfz8_0); (try clear hfz8_1)
  obtain ⟨x5_1, rfl, HA, HK1, BK267, BK268, HB⟩ := hrel
  cases gk with
  | zero => exact absurd HA.out (by simp [spec_SameProgram.l0])
  | succ k1 =>
   have H := HA.out
   clear HA
   simp only [spec_SameProgram.l0] at H
   by_cases c9 : x5_1 < (l0_1.length : Int)
   rotate_left
   ·
    rw [if_neg c9] at H
    have c9b0 : decide (x5_1 < (l0_1.length : Int)) = false := decide_eq_false c9
    clear c9
    obtain rfl := Option.some.inj H
    obtain ⟨hcz131_0, hcz131_1, hfz131_0, hfz131_1⟩ := cl2 BK267.out
    go_wp2
    go_ret
    exact ⟨by first | rfl | (simp [errW_none, errW_some] <;> rfl) | (simp [*, errW_none, errW_some] <;> rfl), be w⟩
   rw [if_pos c9] at H
   have c9b0 : decide (x5_1 < (l0_1.length : Int)) = true := decide_eq_true c9
   clear c9
   by_cases c10 : 0 ≤ x5_1
   rotate_left
   ·
    rw [if_neg c10] at H
    exact absurd H (by simp)
   rw [if_pos c10] at H
   have c10b0 : decide (0 ≤ x5_1) = true := decide_eq_true c10
   clear c10
   by_cases c11 : x5_1 < (l1_1.length : Int)
   rotate_left
   ·
    rw [if_neg c11] at H
    exact absurd H (by simp)
   rw [if_pos c11] at H
   have c11b0 : decide (x5_1 < (l1_1.length : Int)) = true := decide_eq_true c11
   clear c11
   have HC12 := As.mk H
   clear H
   have hnb13 := NB267_268.out
   have hnc13 := NB268_267.out
   obtain ⟨hcz14_0, hcz14_1, hfz14_0, hfz14_1⟩ := cl2 BK267.out
   have p269 : 0 ≤ (x5_1 : Int) := of_decide_eq_true (by first | (with_reducible assumption) | assumption)
   have q269 : x5_1 < (l0_1.length : Int) := of_decide_eq_true (by first | (with_reducible assumption) | assumption)
   obtain ⟨ad269, A269_1, c269_1, e269, hx269_0, hx269_1, hx269_2, hx269_3, hx269_4, hl269_1, hi269_1⟩ := at_T93 HR0_1.out x5_1 p269 q269
   cases e269
   replace hx269_0 := ce HB.out hx269_0
   replace hx269_1 := ce HB.out hx269_1
   replace hx269_2 := ce HB.out hx269_2
   replace hx269_3 := ce HB.out hx269_3
   replace hx269_4 := ce HB.out hx269_4
   have HR269_1 := As.mk hi269_1
   have HC269_1 := As.mk hl269_1
   clear hi269_1 hl269_1
   replace p269 := eq_true p269
   replace q269 := eq_true q269
   go_upto_region 8 with (first | ((with_reducible refine gate_dst (N := 6) rfl ?_); (try (refine gate_guard (by rfl) ?_; dsimp only)); refine box_event ?hg (N := 6) ?hd (cs := #[.string (⟨#[]⟩ : ByteArray), .slice none 0 0, .int .i64 0, .int .i64 0, .int .i64 0]) (t := 93) ?hr ?_; (case hd => rfl); (case hg => rfl); (case hr => first | (go_simp; done) | (go_simp; rfl)); intro gb270 hg w15 hbox hb; have BK270 := As.mk (hbox); have GW270 := As.mk (gs w hg); have GE270 := As.mk (gs w hg); replace HB := As.mk (below_step (be w) hb); have NB267_270 := As.mk (nl hg (bx BK267.out)); have NB270_267 := As.mk (ng hg (bx BK267.out)); replace BK267 := As.mk (blk_below (bx BK267.out) hb); have NB268_270 := As.mk (nl hg (bx BK268.out)); have NB270_268 := As.mk (ng hg (bx BK268.out)); replace BK268 := As.mk (blk_below (bx BK268.out) hb); clear hb hbox hg; have hnb16 := NB270_267.out; have hnc16 := NB267_270.out; have hnb17 := NB270_268.out; have hnc17 := NB268_270.out; obtain ⟨hcz18_0, hcz18_1, hcz18_2, hcz18_3, hcz18_4, hfz18_0, hfz18_1, hfz18_2, hfz18_3, hfz18_4⟩ := cl5 BK270.out; obtain ⟨hcz19_0, hcz19_1, hfz19_0, hfz19_1⟩ := cl2 BK268.out; have p271 : 0 ≤ (x5_1 : Int) := of_decide_eq_true (by first | (with_reducible assumption) | assumption); have q271 : x5_1 < (l1_1.length : Int) := of_decide_eq_true (by first | (with_reducible assumption) | assumption); obtain ⟨ad271, A271_1, c271_1, e271, hx271_0, hx271_1, hx271_2, hx271_3, hx271_4, hl271_1, hi271_1⟩ := at_T93 HR1_1.out x5_1 p271 q271; cases e271; have hn271_0 : ad271.block ≠ gb270 := (by first | exact nb2 hx271_0 GW270.out | exact nb1 hx271_0 GW270.out); have hn271_1 : ad271.block ≠ gb270 := (by first | exact nb2 hx271_0 GW270.out | exact nb1 hx271_0 GW270.out); have hn271_2 : ad271.block ≠ gb270 := (by first | exact nb2 hx271_0 GW270.out | exact nb1 hx271_0 GW270.out); have hn271_3 : ad271.block ≠ gb270 := (by first | exact nb2 hx271_0 GW270.out | exact nb1 hx271_0 GW270.out); have hn271_4 : ad271.block ≠ gb270 := (by first | exact nb2 hx271_0 GW270.out | exact nb1 hx271_0 GW270.out); replace hx271_0 := ce HB.out hx271_0; replace hx271_1 := ce HB.out hx271_1; replace hx271_2 := ce HB.out hx271_2; replace hx271_3 := ce HB.out hx271_3; replace hx271_4 := ce HB.out hx271_4; have HR271_1 := As.mk hi271_1; have HC271_1 := As.mk hl271_1; clear hi271_1 hl271_1; replace hx271_0 := cf0 (j := 0) (.string ((rd_T93 l0_1 x5_1).f0)) hx271_0 hn271_0; replace hx271_1 := cf1 (j := 0) (.string ((rd_T93 l0_1 x5_1).f0)) hx271_1 hn271_0; replace hx271_2 := cf1 (j := 0) (.string ((rd_T93 l0_1 x5_1).f0)) hx271_2 hn271_0; replace hx271_3 := cf1 (j := 0) (.string ((rd_T93 l0_1 x5_1).f0)) hx271_3 hn271_0; replace hx271_4 := cf1 (j := 0) (.string ((rd_T93 l0_1 x5_1).f0)) hx271_4 hn271_0; replace hx271_0 := cf0 (j := 1) (.slice A269_1 ((rd_T93 l0_1 x5_1).f1).length c269_1) hx271_0 hn271_1; replace hx271_1 := cf1 (j := 1) (.slice A269_1 ((rd_T93 l0_1 x5_1).f1).length c269_1) hx271_1 hn271_1; replace hx271_2 := cf1 (j := 1) (.slice A269_1 ((rd_T93 l0_1 x5_1).f1).length c269_1) hx271_2 hn271_1; replace hx271_3 := cf1 (j := 1) (.slice A269_1 ((rd_T93 l0_1 x5_1).f1).length c269_1) hx271_3 hn271_1; replace hx271_4 := cf1 (j := 1) (.slice A269_1 ((rd_T93 l0_1 x5_1).f1).length c269_1) hx271_4 hn271_1; replace hx271_0 := cf0 (j := 2) (.int .i64 ((rd_T93 l0_1 x5_1).f2)) hx271_0 hn271_2; replace hx271_1 := cf1 (j := 2) (.int .i64 ((rd_T93 l0_1 x5_1).f2)) hx271_1 hn271_2; replace hx271_2 := cf1 (j := 2) (.int .i64 ((rd_T93 l0_1 x5_1).f2)) hx271_2 hn271_2; replace hx271_3 := cf1 (j := 2) (.int .i64 ((rd_T93 l0_1 x5_1).f2)) hx271_3 hn271_2; replace hx271_4 := cf1 (j := 2) (.int .i64 ((rd_T93 l0_1 x5_1).f2)) hx271_4 hn271_2; replace hx271_0 := cf0 (j := 3) (.int .i64 ((rd_T93 l0_1 x5_1).f3)) hx271_0 hn271_3; replace hx271_1 := cf1 (j := 3) (.int .i64 ((rd_T93 l0_1 x5_1).f3)) hx271_1 hn271_3; replace hx271_2 := cf1 (j := 3) (.int .i64 ((rd_T93 l0_1 x5_1).f3)) hx271_2 hn271_3; replace hx271_3 := cf1 (j := 3) (.int .i64 ((rd_T93 l0_1 x5_1).f3)) hx271_3 hn271_3; replace hx271_4 := cf1 (j := 3) (.int .i64 ((rd_T93 l0_1 x5_1).f3)) hx271_4 hn271_3; replace hx271_0 := cf0 (j := 4) (.int .i64 ((rd_T93 l0_1 x5_1).f4)) hx271_0 hn271_4; replace hx271_1 := cf1 (j := 4) (.int .i64 ((rd_T93 l0_1 x5_1).f4)) hx271_1 hn271_4; replace hx271_2 := cf1 (j := 4) (.int .i64 ((rd_T93 l0_1 x5_1).f4)) hx271_2 hn271_4; replace hx271_3 := cf1 (j := 4) (.int .i64 ((rd_T93 l0_1 x5_1).f4)) hx271_3 hn271_4; replace hx271_4 := cf1 (j := 4) (.int .i64 ((rd_T93 l0_1 x5_1).f4)) hx271_4 hn271_4; (try have hy271_0 := fun (n_ : Nat) => (show (((((((w15.drewN n_).setCell ⟨gb270, 0, none⟩ (.string ((rd_T93 l0_1 x5_1).f0))).setCell ⟨gb270, 1, none⟩ (.slice A269_1 ((rd_T93 l0_1 x5_1).f1).length c269_1)).setCell ⟨gb270, 2, none⟩ (.int .i64 ((rd_T93 l0_1 x5_1).f2))).setCell ⟨gb270, 3, none⟩ (.int .i64 ((rd_T93 l0_1 x5_1).f3))).setCell ⟨gb270, 4, none⟩ (.int .i64 ((rd_T93 l0_1 x5_1).f4)))).cell? _ = some _ from hx271_0)); (try have hy271_1 := fun (n_ : Nat) => (show (((((((w15.drewN n_).setCell ⟨gb270, 0, none⟩ (.string ((rd_T93 l0_1 x5_1).f0))).setCell ⟨gb270, 1, none⟩ (.slice A269_1 ((rd_T93 l0_1 x5_1).f1).length c269_1)).setCell ⟨gb270, 2, none⟩ (.int .i64 ((rd_T93 l0_1 x5_1).f2))).setCell ⟨gb270, 3, none⟩ (.int .i64 ((rd_T93 l0_1 x5_1).f3))).setCell ⟨gb270, 4, none⟩ (.int .i64 ((rd_T93 l0_1 x5_1).f4)))).cell? _ = some _ from hx271_1)); (try have hy271_2 := fun (n_ : Nat) => (show (((((((w15.drewN n_).setCell ⟨gb270, 0, none⟩ (.string ((rd_T93 l0_1 x5_1).f0))).setCell ⟨gb270, 1, none⟩ (.slice A269_1 ((rd_T93 l0_1 x5_1).f1).length c269_1)).setCell ⟨gb270, 2, none⟩ (.int .i64 ((rd_T93 l0_1 x5_1).f2))).setCell ⟨gb270, 3, none⟩ (.int .i64 ((rd_T93 l0_1 x5_1).f3))).setCell ⟨gb270, 4, none⟩ (.int .i64 ((rd_T93 l0_1 x5_1).f4)))).cell? _ = some _ from hx271_2)); (try have hy271_3 := fun (n_ : Nat) => (show (((((((w15.drewN n_).setCell ⟨gb270, 0, none⟩ (.string ((rd_T93 l0_1 x5_1).f0))).setCell ⟨gb270, 1, none⟩ (.slice A269_1 ((rd_T93 l0_1 x5_1).f1).length c269_1)).setCell ⟨gb270, 2, none⟩ (.int .i64 ((rd_T93 l0_1 x5_1).f2))).setCell ⟨gb270, 3, none⟩ (.int .i64 ((rd_T93 l0_1 x5_1).f3))).setCell ⟨gb270, 4, none⟩ (.int .i64 ((rd_T93 l0_1 x5_1).f4)))).cell? _ = some _ from hx271_3)); (try have hy271_4 := fun (n_ : Nat) => (show (((((((w15.drewN n_).setCell ⟨gb270, 0, none⟩ (.string ((rd_T93 l0_1 x5_1).f0))).setCell ⟨gb270, 1, none⟩ (.slice A269_1 ((rd_T93 l0_1 x5_1).f1).length c269_1)).setCell ⟨gb270, 2, none⟩ (.int .i64 ((rd_T93 l0_1 x5_1).f2))).setCell ⟨gb270, 3, none⟩ (.int .i64 ((rd_T93 l0_1 x5_1).f3))).setCell ⟨gb270, 4, none⟩ (.int .i64 ((rd_T93 l0_1 x5_1).f4)))).cell? _ = some _ from hx271_4)); clear hn271_0; clear hn271_1; clear hn271_2; clear hn271_3; clear hn271_4; replace p271 := eq_true p271; replace q271 := eq_true q271) | ((with_reducible refine gate_dst (N := 7) rfl ?_); (try (refine gate_guard (by rfl) ?_; dsimp only)); refine box_event ?hg (N := 7) ?hd (cs := #[.string (⟨#[]⟩ : ByteArray), .slice none 0 0, .int .i64 0, .int .i64 0, .int .i64 0]) (t := 93) ?hr ?_; (case hd => rfl); (case hg => rfl); (case hr => first | (go_simp; done) | (go_simp; rfl)); intro gb272 hg w20 hbox hb; have BK272 := As.mk (hbox); have GW272 := As.mk (gs w hg); have GE272 := As.mk (gs w hg); replace HB := As.mk (below_step (be w) hb); have NB267_272 := As.mk ((by rw [hg]; exact Nat.ne_of_lt (blk_lt (g := gb267) (o := .cells #[.slice A0_0 l0_0.length c0_0, .slice (some ad269) l0_1.length c0_1] 52 (0, 0)) (by refine pl ?_; refine blk_far ?_ NB267_270.out _; refine pl ?_; refine blk_far ?_ NB267_270.out _; refine pl ?_; refine blk_far ?_ NB267_270.out _; refine pl ?_; refine blk_far ?_ NB267_270.out _; refine pl ?_; refine blk_far ?_ NB267_270.out _; exact bx BK267.out)) : gb267 ≠ gb272)); have NB272_267 := As.mk ((by rw [hg]; exact Nat.ne_of_gt (blk_lt (g := gb267) (o := .cells #[.slice A0_0 l0_0.length c0_0, .slice (some ad269) l0_1.length c0_1] 52 (0, 0)) (by refine pl ?_; refine blk_far ?_ NB267_270.out _; refine pl ?_; refine blk_far ?_ NB267_270.out _; refine pl ?_; refine blk_far ?_ NB267_270.out _; refine pl ?_; refine blk_far ?_ NB267_270.out _; refine pl ?_; refine blk_far ?_ NB267_270.out _; exact bx BK267.out)) : gb272 ≠ gb267)); replace BK267 := As.mk (blk_below (g := gb267) (o := .cells #[.slice A0_0 l0_0.length c0_0, .slice (some ad269) l0_1.length c0_1] 52 (0, 0)) (by refine pl ?_; refine blk_far ?_ NB267_270.out _; refine pl ?_; refine blk_far ?_ NB267_270.out _; refine pl ?_; refine blk_far ?_ NB267_270.out _; refine pl ?_; refine blk_far ?_ NB267_270.out _; refine pl ?_; refine blk_far ?_ NB267_270.out _; exact bx BK267.out) hb); have NB268_272 := As.mk ((by rw [hg]; exact Nat.ne_of_lt (blk_lt (g := gb268) (o := .cells #[.slice A1_0 l1_0.length c1_0, .slice (some ad271) l1_1.length c1_1] 52 (0, 0)) (by refine pl ?_; refine blk_far ?_ NB268_270.out _; refine pl ?_; refine blk_far ?_ NB268_270.out _; refine pl ?_; refine blk_far ?_ NB268_270.out _; refine pl ?_; refine blk_far ?_ NB268_270.out _; refine pl ?_; refine blk_far ?_ NB268_270.out _; exact bx BK268.out)) : gb268 ≠ gb272)); have NB272_268 := As.mk ((by rw [hg]; exact Nat.ne_of_gt (blk_lt (g := gb268) (o := .cells #[.slice A1_0 l1_0.length c1_0, .slice (some ad271) l1_1.length c1_1] 52 (0, 0)) (by refine pl ?_; refine blk_far ?_ NB268_270.out _; refine pl ?_; refine blk_far ?_ NB268_270.out _; refine pl ?_; refine blk_far ?_ NB268_270.out _; refine pl ?_; refine blk_far ?_ NB268_270.out _; refine pl ?_; refine blk_far ?_ NB268_270.out _; exact bx BK268.out)) : gb272 ≠ gb268)); replace BK268 := As.mk (blk_below (g := gb268) (o := .cells #[.slice A1_0 l1_0.length c1_0, .slice (some ad271) l1_1.length c1_1] 52 (0, 0)) (by refine pl ?_; refine blk_far ?_ NB268_270.out _; refine pl ?_; refine blk_far ?_ NB268_270.out _; refine pl ?_; refine blk_far ?_ NB268_270.out _; refine pl ?_; refine blk_far ?_ NB268_270.out _; refine pl ?_; refine blk_far ?_ NB268_270.out _; exact bx BK268.out) hb); have NB270_272 := As.mk ((by rw [hg]; exact Nat.ne_of_lt (blk_lt (g := gb270) (o := .cells #[.string ((rd_T93 l0_1 x5_1).f0), .slice A269_1 ((rd_T93 l0_1 x5_1).f1).length c269_1, .int .i64 ((rd_T93 l0_1 x5_1).f2), .int .i64 ((rd_T93 l0_1 x5_1).f3), .int .i64 ((rd_T93 l0_1 x5_1).f4)] 93 (0, 0)) (by refine pl ?_; refine blk_put (cs := #[.string ((rd_T93 l0_1 x5_1).f0), .slice A269_1 ((rd_T93 l0_1 x5_1).f1).length c269_1, .int .i64 ((rd_T93 l0_1 x5_1).f2), .int .i64 ((rd_T93 l0_1 x5_1).f3), .int .i64 0]) ?_ 4 _ rfl; refine pl ?_; refine blk_put (cs := #[.string ((rd_T93 l0_1 x5_1).f0), .slice A269_1 ((rd_T93 l0_1 x5_1).f1).length c269_1, .int .i64 ((rd_T93 l0_1 x5_1).f2), .int .i64 0, .int .i64 0]) ?_ 3 _ rfl; refine pl ?_; refine blk_put (cs := #[.string ((rd_T93 l0_1 x5_1).f0), .slice A269_1 ((rd_T93 l0_1 x5_1).f1).length c269_1, .int .i64 0, .int .i64 0, .int .i64 0]) ?_ 2 _ rfl; refine pl ?_; refine blk_put (cs := #[.string ((rd_T93 l0_1 x5_1).f0), .slice none 0 0, .int .i64 0, .int .i64 0, .int .i64 0]) ?_ 1 _ rfl; refine pl ?_; refine blk_put (cs := #[.string (⟨#[]⟩ : ByteArray), .slice none 0 0, .int .i64 0, .int .i64 0, .int .i64 0]) ?_ 0 _ rfl; exact bx BK270.out)) : gb270 ≠ gb272)); have NB272_270 := As.mk ((by rw [hg]; exact Nat.ne_of_gt (blk_lt (g := gb270) (o := .cells #[.string ((rd_T93 l0_1 x5_1).f0), .slice A269_1 ((rd_T93 l0_1 x5_1).f1).length c269_1, .int .i64 ((rd_T93 l0_1 x5_1).f2), .int .i64 ((rd_T93 l0_1 x5_1).f3), .int .i64 ((rd_T93 l0_1 x5_1).f4)] 93 (0, 0)) (by refine pl ?_; refine blk_put (cs := #[.string ((rd_T93 l0_1 x5_1).f0), .slice A269_1 ((rd_T93 l0_1 x5_1).f1).length c269_1, .int .i64 ((rd_T93 l0_1 x5_1).f2), .int .i64 ((rd_T93 l0_1 x5_1).f3), .int .i64 0]) ?_ 4 _ rfl; refine pl ?_; refine blk_put (cs := #[.string ((rd_T93 l0_1 x5_1).f0), .slice A269_1 ((rd_T93 l0_1 x5_1).f1).length c269_1, .int .i64 ((rd_T93 l0_1 x5_1).f2), .int .i64 0, .int .i64 0]) ?_ 3 _ rfl; refine pl ?_; refine blk_put (cs := #[.string ((rd_T93 l0_1 x5_1).f0), .slice A269_1 ((rd_T93 l0_1 x5_1).f1).length c269_1, .int .i64 0, .int .i64 0, .int .i64 0]) ?_ 2 _ rfl; refine pl ?_; refine blk_put (cs := #[.string ((rd_T93 l0_1 x5_1).f0), .slice none 0 0, .int .i64 0, .int .i64 0, .int .i64 0]) ?_ 1 _ rfl; refine pl ?_; refine blk_put (cs := #[.string (⟨#[]⟩ : ByteArray), .slice none 0 0, .int .i64 0, .int .i64 0, .int .i64 0]) ?_ 0 _ rfl; exact bx BK270.out)) : gb272 ≠ gb270)); replace BK270 := As.mk (blk_below (g := gb270) (o := .cells #[.string ((rd_T93 l0_1 x5_1).f0), .slice A269_1 ((rd_T93 l0_1 x5_1).f1).length c269_1, .int .i64 ((rd_T93 l0_1 x5_1).f2), .int .i64 ((rd_T93 l0_1 x5_1).f3), .int .i64 ((rd_T93 l0_1 x5_1).f4)] 93 (0, 0)) (by refine pl ?_; refine blk_put (cs := #[.string ((rd_T93 l0_1 x5_1).f0), .slice A269_1 ((rd_T93 l0_1 x5_1).f1).length c269_1, .int .i64 ((rd_T93 l0_1 x5_1).f2), .int .i64 ((rd_T93 l0_1 x5_1).f3), .int .i64 0]) ?_ 4 _ rfl; refine pl ?_; refine blk_put (cs := #[.string ((rd_T93 l0_1 x5_1).f0), .slice A269_1 ((rd_T93 l0_1 x5_1).f1).length c269_1, .int .i64 ((rd_T93 l0_1 x5_1).f2), .int .i64 0, .int .i64 0]) ?_ 3 _ rfl; refine pl ?_; refine blk_put (cs := #[.string ((rd_T93 l0_1 x5_1).f0), .slice A269_1 ((rd_T93 l0_1 x5_1).f1).length c269_1, .int .i64 0, .int .i64 0, .int .i64 0]) ?_ 2 _ rfl; refine pl ?_; refine blk_put (cs := #[.string ((rd_T93 l0_1 x5_1).f0), .slice none 0 0, .int .i64 0, .int .i64 0, .int .i64 0]) ?_ 1 _ rfl; refine pl ?_; refine blk_put (cs := #[.string (⟨#[]⟩ : ByteArray), .slice none 0 0, .int .i64 0, .int .i64 0, .int .i64 0]) ?_ 0 _ rfl; exact bx BK270.out) hb); clear hb hbox hg; have hnb21 := NB272_267.out; have hnc21 := NB267_272.out; have hnb22 := NB272_268.out; have hnc22 := NB268_272.out; have hnb23 := NB272_270.out; have hnc23 := NB270_272.out; obtain ⟨hcz24_0, hcz24_1, hcz24_2, hcz24_3, hcz24_4, hfz24_0, hfz24_1, hfz24_2, hfz24_3, hfz24_4⟩ := cl5 BK272.out))
   repeat (go_quiet (first | ((with_reducible refine gate_dst (N := 6) rfl ?_); (try (refine gate_guard (by rfl) ?_; dsimp only)); refine box_event ?hg (N := 6) ?hd (cs := #[.string (⟨#[]⟩ : ByteArray), .slice none 0 0, .int .i64 0, .int .i64 0, .int .i64 0]) (t := 93) ?hr ?_; (case hd => rfl); (case hg => rfl); (case hr => first | (go_simp; done) | (go_simp; rfl)); intro gb270 hg w15 hbox hb; have BK270 := As.mk (hbox); have GW270 := As.mk (gs w hg); have GE270 := As.mk (gs w hg); replace HB := As.mk (below_step (be w) hb); have NB267_270 := As.mk (nl hg (bx BK267.out)); have NB270_267 := As.mk (ng hg (bx BK267.out)); replace BK267 := As.mk (blk_below (bx BK267.out) hb); have NB268_270 := As.mk (nl hg (bx BK268.out)); have NB270_268 := As.mk (ng hg (bx BK268.out)); replace BK268 := As.mk (blk_below (bx BK268.out) hb); clear hb hbox hg; have hnb16 := NB270_267.out; have hnc16 := NB267_270.out; have hnb17 := NB270_268.out; have hnc17 := NB268_270.out; obtain ⟨hcz18_0, hcz18_1, hcz18_2, hcz18_3, hcz18_4, hfz18_0, hfz18_1, hfz18_2, hfz18_3, hfz18_4⟩ := cl5 BK270.out; obtain ⟨hcz19_0, hcz19_1, hfz19_0, hfz19_1⟩ := cl2 BK268.out; have p271 : 0 ≤ (x5_1 : Int) := of_decide_eq_true (by first | (with_reducible assumption) | assumption); have q271 : x5_1 < (l1_1.length : Int) := of_decide_eq_true (by first | (with_reducible assumption) | assumption); obtain ⟨ad271, A271_1, c271_1, e271, hx271_0, hx271_1, hx271_2, hx271_3, hx271_4, hl271_1, hi271_1⟩ := at_T93 HR1_1.out x5_1 p271 q271; cases e271; have hn271_0 : ad271.block ≠ gb270 := (by first | exact nb2 hx271_0 GW270.out | exact nb1 hx271_0 GW270.out); have hn271_1 : ad271.block ≠ gb270 := (by first | exact nb2 hx271_0 GW270.out | exact nb1 hx271_0 GW270.out); have hn271_2 : ad271.block ≠ gb270 := (by first | exact nb2 hx271_0 GW270.out | exact nb1 hx271_0 GW270.out); have hn271_3 : ad271.block ≠ gb270 := (by first | exact nb2 hx271_0 GW270.out | exact nb1 hx271_0 GW270.out); have hn271_4 : ad271.block ≠ gb270 := (by first | exact nb2 hx271_0 GW270.out | exact nb1 hx271_0 GW270.out); replace hx271_0 := ce HB.out hx271_0; replace hx271_1 := ce HB.out hx271_1; replace hx271_2 := ce HB.out hx271_2; replace hx271_3 := ce HB.out hx271_3; replace hx271_4 := ce HB.out hx271_4; have HR271_1 := As.mk hi271_1; have HC271_1 := As.mk hl271_1; clear hi271_1 hl271_1; replace hx271_0 := cf0 (j := 0) (.string ((rd_T93 l0_1 x5_1).f0)) hx271_0 hn271_0; replace hx271_1 := cf1 (j := 0) (.string ((rd_T93 l0_1 x5_1).f0)) hx271_1 hn271_0; replace hx271_2 := cf1 (j := 0) (.string ((rd_T93 l0_1 x5_1).f0)) hx271_2 hn271_0; replace hx271_3 := cf1 (j := 0) (.string ((rd_T93 l0_1 x5_1).f0)) hx271_3 hn271_0; replace hx271_4 := cf1 (j := 0) (.string ((rd_T93 l0_1 x5_1).f0)) hx271_4 hn271_0; replace hx271_0 := cf0 (j := 1) (.slice A269_1 ((rd_T93 l0_1 x5_1).f1).length c269_1) hx271_0 hn271_1; replace hx271_1 := cf1 (j := 1) (.slice A269_1 ((rd_T93 l0_1 x5_1).f1).length c269_1) hx271_1 hn271_1; replace hx271_2 := cf1 (j := 1) (.slice A269_1 ((rd_T93 l0_1 x5_1).f1).length c269_1) hx271_2 hn271_1; replace hx271_3 := cf1 (j := 1) (.slice A269_1 ((rd_T93 l0_1 x5_1).f1).length c269_1) hx271_3 hn271_1; replace hx271_4 := cf1 (j := 1) (.slice A269_1 ((rd_T93 l0_1 x5_1).f1).length c269_1) hx271_4 hn271_1; replace hx271_0 := cf0 (j := 2) (.int .i64 ((rd_T93 l0_1 x5_1).f2)) hx271_0 hn271_2; replace hx271_1 := cf1 (j := 2) (.int .i64 ((rd_T93 l0_1 x5_1).f2)) hx271_1 hn271_2; replace hx271_2 := cf1 (j := 2) (.int .i64 ((rd_T93 l0_1 x5_1).f2)) hx271_2 hn271_2; replace hx271_3 := cf1 (j := 2) (.int .i64 ((rd_T93 l0_1 x5_1).f2)) hx271_3 hn271_2; replace hx271_4 := cf1 (j := 2) (.int .i64 ((rd_T93 l0_1 x5_1).f2)) hx271_4 hn271_2; replace hx271_0 := cf0 (j := 3) (.int .i64 ((rd_T93 l0_1 x5_1).f3)) hx271_0 hn271_3; replace hx271_1 := cf1 (j := 3) (.int .i64 ((rd_T93 l0_1 x5_1).f3)) hx271_1 hn271_3; replace hx271_2 := cf1 (j := 3) (.int .i64 ((rd_T93 l0_1 x5_1).f3)) hx271_2 hn271_3; replace hx271_3 := cf1 (j := 3) (.int .i64 ((rd_T93 l0_1 x5_1).f3)) hx271_3 hn271_3; replace hx271_4 := cf1 (j := 3) (.int .i64 ((rd_T93 l0_1 x5_1).f3)) hx271_4 hn271_3; replace hx271_0 := cf0 (j := 4) (.int .i64 ((rd_T93 l0_1 x5_1).f4)) hx271_0 hn271_4; replace hx271_1 := cf1 (j := 4) (.int .i64 ((rd_T93 l0_1 x5_1).f4)) hx271_1 hn271_4; replace hx271_2 := cf1 (j := 4) (.int .i64 ((rd_T93 l0_1 x5_1).f4)) hx271_2 hn271_4; replace hx271_3 := cf1 (j := 4) (.int .i64 ((rd_T93 l0_1 x5_1).f4)) hx271_3 hn271_4; replace hx271_4 := cf1 (j := 4) (.int .i64 ((rd_T93 l0_1 x5_1).f4)) hx271_4 hn271_4; (try have hy271_0 := fun (n_ : Nat) => (show (((((((w15.drewN n_).setCell ⟨gb270, 0, none⟩ (.string ((rd_T93 l0_1 x5_1).f0))).setCell ⟨gb270, 1, none⟩ (.slice A269_1 ((rd_T93 l0_1 x5_1).f1).length c269_1)).setCell ⟨gb270, 2, none⟩ (.int .i64 ((rd_T93 l0_1 x5_1).f2))).setCell ⟨gb270, 3, none⟩ (.int .i64 ((rd_T93 l0_1 x5_1).f3))).setCell ⟨gb270, 4, none⟩ (.int .i64 ((rd_T93 l0_1 x5_1).f4)))).cell? _ = some _ from hx271_0)); (try have hy271_1 := fun (n_ : Nat) => (show (((((((w15.drewN n_).setCell ⟨gb270, 0, none⟩ (.string ((rd_T93 l0_1 x5_1).f0))).setCell ⟨gb270, 1, none⟩ (.slice A269_1 ((rd_T93 l0_1 x5_1).f1).length c269_1)).setCell ⟨gb270, 2, none⟩ (.int .i64 ((rd_T93 l0_1 x5_1).f2))).setCell ⟨gb270, 3, none⟩ (.int .i64 ((rd_T93 l0_1 x5_1).f3))).setCell ⟨gb270, 4, none⟩ (.int .i64 ((rd_T93 l0_1 x5_1).f4)))).cell? _ = some _ from hx271_1)); (try have hy271_2 := fun (n_ : Nat) => (show (((((((w15.drewN n_).setCell ⟨gb270, 0, none⟩ (.string ((rd_T93 l0_1 x5_1).f0))).setCell ⟨gb270, 1, none⟩ (.slice A269_1 ((rd_T93 l0_1 x5_1).f1).length c269_1)).setCell ⟨gb270, 2, none⟩ (.int .i64 ((rd_T93 l0_1 x5_1).f2))).setCell ⟨gb270, 3, none⟩ (.int .i64 ((rd_T93 l0_1 x5_1).f3))).setCell ⟨gb270, 4, none⟩ (.int .i64 ((rd_T93 l0_1 x5_1).f4)))).cell? _ = some _ from hx271_2)); (try have hy271_3 := fun (n_ : Nat) => (show (((((((w15.drewN n_).setCell ⟨gb270, 0, none⟩ (.string ((rd_T93 l0_1 x5_1).f0))).setCell ⟨gb270, 1, none⟩ (.slice A269_1 ((rd_T93 l0_1 x5_1).f1).length c269_1)).setCell ⟨gb270, 2, none⟩ (.int .i64 ((rd_T93 l0_1 x5_1).f2))).setCell ⟨gb270, 3, none⟩ (.int .i64 ((rd_T93 l0_1 x5_1).f3))).setCell ⟨gb270, 4, none⟩ (.int .i64 ((rd_T93 l0_1 x5_1).f4)))).cell? _ = some _ from hx271_3)); (try have hy271_4 := fun (n_ : Nat) => (show (((((((w15.drewN n_).setCell ⟨gb270, 0, none⟩ (.string ((rd_T93 l0_1 x5_1).f0))).setCell ⟨gb270, 1, none⟩ (.slice A269_1 ((rd_T93 l0_1 x5_1).f1).length c269_1)).setCell ⟨gb270, 2, none⟩ (.int .i64 ((rd_T93 l0_1 x5_1).f2))).setCell ⟨gb270, 3, none⟩ (.int .i64 ((rd_T93 l0_1 x5_1).f3))).setCell ⟨gb270, 4, none⟩ (.int .i64 ((rd_T93 l0_1 x5_1).f4)))).cell? _ = some _ from hx271_4)); clear hn271_0; clear hn271_1; clear hn271_2; clear hn271_3; clear hn271_4; replace p271 := eq_true p271; replace q271 := eq_true q271) | ((with_reducible refine gate_dst (N := 7) rfl ?_); (try (refine gate_guard (by rfl) ?_; dsimp only)); refine box_event ?hg (N := 7) ?hd (cs := #[.string (⟨#[]⟩ : ByteArray), .slice none 0 0, .int .i64 0, .int .i64 0, .int .i64 0]) (t := 93) ?hr ?_; (case hd => rfl); (case hg => rfl); (case hr => first | (go_simp; done) | (go_simp; rfl)); intro gb272 hg w20 hbox hb; have BK270 := As.mk (below_step (be w) hb); have GW270 := As.mk (hbox); have GE270 := As.mk (gs w hg); have NB267_270 := As.mk (gs w hg); replace HB := As.mk (blk_below (g := gb270) (o := .cells #[.string ((rd_T93 l0_1 x5_1).f0), .slice A269_1 ((rd_T93 l0_1 x5_1).f1).length c269_1, .int .i64 ((rd_T93 l0_1 x5_1).f2), .int .i64 ((rd_T93 l0_1 x5_1).f3), .int .i64 ((rd_T93 l0_1 x5_1).f4)] 93 (0, 0)) (by refine pl ?_; refine blk_put (cs := #[.string ((rd_T93 l0_1 x5_1).f0), .slice A269_1 ((rd_T93 l0_1 x5_1).f1).length c269_1, .int .i64 ((rd_T93 l0_1 x5_1).f2), .int .i64 ((rd_T93 l0_1 x5_1).f3), .int .i64 0]) ?_ 4 _ rfl; refine pl ?_; refine blk_put (cs := #[.string ((rd_T93 l0_1 x5_1).f0), .slice A269_1 ((rd_T93 l0_1 x5_1).f1).length c269_1, .int .i64 ((rd_T93 l0_1 x5_1).f2), .int .i64 0, .int .i64 0]) ?_ 3 _ rfl; refine pl ?_; refine blk_put (cs := #[.string ((rd_T93 l0_1 x5_1).f0), .slice A269_1 ((rd_T93 l0_1 x5_1).f1).length c269_1, .int .i64 0, .int .i64 0, .int .i64 0]) ?_ 2 _ rfl; refine pl ?_; refine blk_put (cs := #[.string ((rd_T93 l0_1 x5_1).f0), .slice none 0 0, .int .i64 0, .int .i64 0, .int .i64 0]) ?_ 1 _ rfl; refine pl ?_; refine blk_put (cs := #[.string (⟨#[]⟩ : ByteArray), .slice none 0 0, .int .i64 0, .int .i64 0, .int .i64 0]) ?_ 0 _ rfl; exact bx BK270.out) hb); have NB270_267 := As.mk (ng hg (bx BK267.out)); replace BK267 := As.mk (blk_below (g := gb267) (o := .cells #[.slice A0_0 l0_0.length c0_0, .slice (some ad269) l0_1.length c0_1] 52 (0, 0)) (by refine pl ?_; refine blk_far ?_ NB267_270.out _; refine pl ?_; refine blk_far ?_ NB267_270.out _; refine pl ?_; refine blk_far ?_ NB267_270.out _; refine pl ?_; refine blk_far ?_ NB267_270.out _; refine pl ?_; refine blk_far ?_ NB267_270.out _; exact bx BK267.out) hb); have NB268_270 := As.mk (nl hg (bx BK268.out)); have NB270_268 := As.mk (ng hg (bx BK268.out)); replace BK268 := As.mk (blk_below (g := gb268) (o := .cells #[.slice A1_0 l1_0.length c1_0, .slice (some ad271) l1_1.length c1_1] 52 (0, 0)) (by refine pl ?_; refine blk_far ?_ NB268_270.out _; refine pl ?_; refine blk_far ?_ NB268_270.out _; refine pl ?_; refine blk_far ?_ NB268_270.out _; refine pl ?_; refine blk_far ?_ NB268_270.out _; refine pl ?_; refine blk_far ?_ NB268_270.out _; exact bx BK268.out) hb); clear hb hbox hg; have hnb16 := NB270_267.out; have hnc16 := NB267_270.out; have hnb17 := NB270_268.out; have hnc17 := NB268_270.out; obtain ⟨hcz18_0, hcz18_1, hcz18_2, hcz18_3, hcz18_4, hfz18_0, hfz18_1, hfz18_2, hfz18_3, hfz18_4⟩ := cl5 BK270.out; obtain ⟨hcz19_0, hcz19_1, hfz19_0, hfz19_1⟩ := cl2 BK268.out; have p271 : 0 ≤ (x5_1 : Int) := of_decide_eq_true (by first | (with_reducible assumption) | assumption); have q271 : x5_1 < (l1_1.length : Int) := of_decide_eq_true (by first | (with_reducible assumption) | assumption); obtain ⟨ad271, A271_1, c271_1, e271, hx271_0, hx271_1, hx271_2, hx271_3, hx271_4, hl271_1, hi271_1⟩ := at_T93 HR1_1.out x5_1 p271 q271; cases e271; have hn271_0 : ad271.block ≠ gb270 := (by first | exact nb2 hx271_0 GW270.out | exact nb1 hx271_0 GW270.out); have hn271_1 : ad271.block ≠ gb270 := (by first | exact nb2 hx271_0 GW270.out | exact nb1 hx271_0 GW270.out); have hn271_2 : ad271.block ≠ gb270 := (by first | exact nb2 hx271_0 GW270.out | exact nb1 hx271_0 GW270.out); have hn271_3 : ad271.block ≠ gb270 := (by first | exact nb2 hx271_0 GW270.out | exact nb1 hx271_0 GW270.out); have hn271_4 : ad271.block ≠ gb270 := (by first | exact nb2 hx271_0 GW270.out | exact nb1 hx271_0 GW270.out); replace hx271_0 := ce HB.out hx271_0; replace hx271_1 := ce HB.out hx271_1; replace hx271_2 := ce HB.out hx271_2; replace hx271_3 := ce HB.out hx271_3; replace hx271_4 := ce HB.out hx271_4; have HR271_1 := As.mk hi271_1; have HC271_1 := As.mk hl271_1; clear hi271_1 hl271_1; replace hx271_0 := cf0 (j := 0) (.string ((rd_T93 l0_1 x5_1).f0)) hx271_0 hn271_0; replace hx271_1 := cf1 (j := 0) (.string ((rd_T93 l0_1 x5_1).f0)) hx271_1 hn271_0; replace hx271_2 := cf1 (j := 0) (.string ((rd_T93 l0_1 x5_1).f0)) hx271_2 hn271_0; replace hx271_3 := cf1 (j := 0) (.string ((rd_T93 l0_1 x5_1).f0)) hx271_3 hn271_0; replace hx271_4 := cf1 (j := 0) (.string ((rd_T93 l0_1 x5_1).f0)) hx271_4 hn271_0; replace hx271_0 := cf0 (j := 1) (.slice A269_1 ((rd_T93 l0_1 x5_1).f1).length c269_1) hx271_0 hn271_1; replace hx271_1 := cf1 (j := 1) (.slice A269_1 ((rd_T93 l0_1 x5_1).f1).length c269_1) hx271_1 hn271_1; replace hx271_2 := cf1 (j := 1) (.slice A269_1 ((rd_T93 l0_1 x5_1).f1).length c269_1) hx271_2 hn271_1; replace hx271_3 := cf1 (j := 1) (.slice A269_1 ((rd_T93 l0_1 x5_1).f1).length c269_1) hx271_3 hn271_1; replace hx271_4 := cf1 (j := 1) (.slice A269_1 ((rd_T93 l0_1 x5_1).f1).length c269_1) hx271_4 hn271_1; replace hx271_0 := cf0 (j := 2) (.int .i64 ((rd_T93 l0_1 x5_1).f2)) hx271_0 hn271_2; replace hx271_1 := cf1 (j := 2) (.int .i64 ((rd_T93 l0_1 x5_1).f2)) hx271_1 hn271_2; replace hx271_2 := cf1 (j := 2) (.int .i64 ((rd_T93 l0_1 x5_1).f2)) hx271_2 hn271_2; replace hx271_3 := cf1 (j := 2) (.int .i64 ((rd_T93 l0_1 x5_1).f2)) hx271_3 hn271_2; replace hx271_4 := cf1 (j := 2) (.int .i64 ((rd_T93 l0_1 x5_1).f2)) hx271_4 hn271_2; replace hx271_0 := cf0 (j := 3) (.int .i64 ((rd_T93 l0_1 x5_1).f3)) hx271_0 hn271_3; replace hx271_1 := cf1 (j := 3) (.int .i64 ((rd_T93 l0_1 x5_1).f3)) hx271_1 hn271_3; replace hx271_2 := cf1 (j := 3) (.int .i64 ((rd_T93 l0_1 x5_1).f3)) hx271_2 hn271_3; replace hx271_3 := cf1 (j := 3) (.int .i64 ((rd_T93 l0_1 x5_1).f3)) hx271_3 hn271_3; replace hx271_4 := cf1 (j := 3) (.int .i64 ((rd_T93 l0_1 x5_1).f3)) hx271_4 hn271_3; replace hx271_0 := cf0 (j := 4) (.int .i64 ((rd_T93 l0_1 x5_1).f4)) hx271_0 hn271_4; replace hx271_1 := cf1 (j := 4) (.int .i64 ((rd_T93 l0_1 x5_1).f4)) hx271_1 hn271_4; replace hx271_2 := cf1 (j := 4) (.int .i64 ((rd_T93 l0_1 x5_1).f4)) hx271_2 hn271_4; replace hx271_3 := cf1 (j := 4) (.int .i64 ((rd_T93 l0_1 x5_1).f4)) hx271_3 hn271_4; replace hx271_4 := cf1 (j := 4) (.int .i64 ((rd_T93 l0_1 x5_1).f4)) hx271_4 hn271_4; (try have hy271_0 := fun (n_ : Nat) => (show (((((((w15.drewN n_).setCell ⟨gb270, 0, none⟩ (.string ((rd_T93 l0_1 x5_1).f0))).setCell ⟨gb270, 1, none⟩ (.slice A269_1 ((rd_T93 l0_1 x5_1).f1).length c269_1)).setCell ⟨gb270, 2, none⟩ (.int .i64 ((rd_T93 l0_1 x5_1).f2))).setCell ⟨gb270, 3, none⟩ (.int .i64 ((rd_T93 l0_1 x5_1).f3))).setCell ⟨gb270, 4, none⟩ (.int .i64 ((rd_T93 l0_1 x5_1).f4)))).cell? _ = some _ from hx271_0)); (try have hy271_1 := fun (n_ : Nat) => (show (((((((w15.drewN n_).setCell ⟨gb270, 0, none⟩ (.string ((rd_T93 l0_1 x5_1).f0))).setCell ⟨gb270, 1, none⟩ (.slice A269_1 ((rd_T93 l0_1 x5_1).f1).length c269_1)).setCell ⟨gb270, 2, none⟩ (.int .i64 ((rd_T93 l0_1 x5_1).f2))).setCell ⟨gb270, 3, none⟩ (.int .i64 ((rd_T93 l0_1 x5_1).f3))).setCell ⟨gb270, 4, none⟩ (.int .i64 ((rd_T93 l0_1 x5_1).f4)))).cell? _ = some _ from hx271_1)); (try have hy271_2 := fun (n_ : Nat) => (show (((((((w15.drewN n_).setCell ⟨gb270, 0, none⟩ (.string ((rd_T93 l0_1 x5_1).f0))).setCell ⟨gb270, 1, none⟩ (.slice A269_1 ((rd_T93 l0_1 x5_1).f1).length c269_1)).setCell ⟨gb270, 2, none⟩ (.int .i64 ((rd_T93 l0_1 x5_1).f2))).setCell ⟨gb270, 3, none⟩ (.int .i64 ((rd_T93 l0_1 x5_1).f3))).setCell ⟨gb270, 4, none⟩ (.int .i64 ((rd_T93 l0_1 x5_1).f4)))).cell? _ = some _ from hx271_2)); (try have hy271_3 := fun (n_ : Nat) => (show (((((((w15.drewN n_).setCell ⟨gb270, 0, none⟩ (.string ((rd_T93 l0_1 x5_1).f0))).setCell ⟨gb270, 1, none⟩ (.slice A269_1 ((rd_T93 l0_1 x5_1).f1).length c269_1)).setCell ⟨gb270, 2, none⟩ (.int .i64 ((rd_T93 l0_1 x5_1).f2))).setCell ⟨gb270, 3, none⟩ (.int .i64 ((rd_T93 l0_1 x5_1).f3))).setCell ⟨gb270, 4, none⟩ (.int .i64 ((rd_T93 l0_1 x5_1).f4)))).cell? _ = some _ from hx271_3)); (try have hy271_4 := fun (n_ : Nat) => (show (((((((w15.drewN n_).setCell ⟨gb270, 0, none⟩ (.string ((rd_T93 l0_1 x5_1).f0))).setCell ⟨gb270, 1, none⟩ (.slice A269_1 ((rd_T93 l0_1 x5_1).f1).length c269_1)).setCell ⟨gb270, 2, none⟩ (.int .i64 ((rd_T93 l0_1 x5_1).f2))).setCell ⟨gb270, 3, none⟩ (.int .i64 ((rd_T93 l0_1 x5_1).f3))).setCell ⟨gb270, 4, none⟩ (.int .i64 ((rd_T93 l0_1 x5_1).f4)))).cell? _ = some _ from hx271_4)); clear hn271_0; clear hn271_1; clear hn271_2; clear hn271_3; clear hn271_4; replace p271 := eq_true p271; replace q271 := eq_true q271) | ((with_reducible refine gate_dst (N := 7) rfl ?_); (try (refine gate_guard (by rfl) ?_; dsimp only)); refine box_event ?hg (N := 7) ?hd (cs := #[.string (⟨#[]⟩ : ByteArray), .slice none 0 0, .int .i64 0, .int .i64 0, .int .i64 0]) (t := 93) ?hr ?_; (case hd => rfl); (case hg => rfl); (case hr => first | (go_simp; done) | (go_simp; rfl)); intro gb272 hg w20 hbox hb; have BK272 := As.mk (hbox); have GW272 := As.mk (gs w hg); have GE272 := As.mk (gs w hg); replace HB := As.mk (below_step (be w) hb); have NB267_272 := As.mk ((by rw [hg]; exact Nat.ne_of_lt (blk_lt (g := gb267) (o := .cells #[.slice A0_0 l0_0.length c0_0, .slice (some ad269) l0_1.length c0_1] 52 (0, 0)) (by refine pl ?_; refine blk_far ?_ NB267_270.out _; refine pl ?_; refine blk_far ?_ NB267_270.out _; refine pl ?_; refine blk_far ?_ NB267_270.out _; refine pl ?_; refine blk_far ?_ NB267_270.out _; refine pl ?_; refine blk_far ?_ NB267_270.out _; exact bx BK267.out)) : gb267 ≠ gb272)); have NB272_267 := As.mk ((by rw [hg]; exact Nat.ne_of_gt (blk_lt (g := gb267) (o := .cells #[.slice A0_0 l0_0.length c0_0, .slice (some ad269) l0_1.length c0_1] 52 (0, 0)) (by refine pl ?_; refine blk_far ?_ NB267_270.out _; refine pl ?_; refine blk_far ?_ NB267_270.out _; refine pl ?_; refine blk_far ?_ NB267_270.out _; refine pl ?_; refine blk_far ?_ NB267_270.out _; refine pl ?_; refine blk_far ?_ NB267_270.out _; exact bx BK267.out)) : gb272 ≠ gb267)); replace BK267 := As.mk (blk_below (g := gb267) (o := .cells #[.slice A0_0 l0_0.length c0_0, .slice (some ad269) l0_1.length c0_1] 52 (0, 0)) (by refine pl ?_; refine blk_far ?_ NB267_270.out _; refine pl ?_; refine blk_far ?_ NB267_270.out _; refine pl ?_; refine blk_far ?_ NB267_270.out _; refine pl ?_; refine blk_far ?_ NB267_270.out _; refine pl ?_; refine blk_far ?_ NB267_270.out _; exact bx BK267.out) hb); have NB268_272 := As.mk ((by rw [hg]; exact Nat.ne_of_lt (blk_lt (g := gb268) (o := .cells #[.slice A1_0 l1_0.length c1_0, .slice (some ad271) l1_1.length c1_1] 52 (0, 0)) (by refine pl ?_; refine blk_far ?_ NB268_270.out _; refine pl ?_; refine blk_far ?_ NB268_270.out _; refine pl ?_; refine blk_far ?_ NB268_270.out _; refine pl ?_; refine blk_far ?_ NB268_270.out _; refine pl ?_; refine blk_far ?_ NB268_270.out _; exact bx BK268.out)) : gb268 ≠ gb272)); have NB272_268 := As.mk ((by rw [hg]; exact Nat.ne_of_gt (blk_lt (g := gb268) (o := .cells #[.slice A1_0 l1_0.length c1_0, .slice (some ad271) l1_1.length c1_1] 52 (0, 0)) (by refine pl ?_; refine blk_far ?_ NB268_270.out _; refine pl ?_; refine blk_far ?_ NB268_270.out _; refine pl ?_; refine blk_far ?_ NB268_270.out _; refine pl ?_; refine blk_far ?_ NB268_270.out _; refine pl ?_; refine blk_far ?_ NB268_270.out _; exact bx BK268.out)) : gb272 ≠ gb268)); replace BK268 := As.mk (blk_below (g := gb268) (o := .cells #[.slice A1_0 l1_0.length c1_0, .slice (some ad271) l1_1.length c1_1] 52 (0, 0)) (by refine pl ?_; refine blk_far ?_ NB268_270.out _; refine pl ?_; refine blk_far ?_ NB268_270.out _; refine pl ?_; refine blk_far ?_ NB268_270.out _; refine pl ?_; refine blk_far ?_ NB268_270.out _; refine pl ?_; refine blk_far ?_ NB268_270.out _; exact bx BK268.out) hb); have NB270_272 := As.mk ((by rw [hg]; exact Nat.ne_of_lt (blk_lt (g := gb270) (o := .cells #[.string ((rd_T93 l0_1 x5_1).f0), .slice A269_1 ((rd_T93 l0_1 x5_1).f1).length c269_1, .int .i64 ((rd_T93 l0_1 x5_1).f2), .int .i64 ((rd_T93 l0_1 x5_1).f3), .int .i64 ((rd_T93 l0_1 x5_1).f4)] 93 (0, 0)) (by refine pl ?_; refine blk_put (cs := #[.string ((rd_T93 l0_1 x5_1).f0), .slice A269_1 ((rd_T93 l0_1 x5_1).f1).length c269_1, .int .i64 ((rd_T93 l0_1 x5_1).f2), .int .i64 ((rd_T93 l0_1 x5_1).f3), .int .i64 0]) ?_ 4 _ rfl; refine pl ?_; refine blk_put (cs := #[.string ((rd_T93 l0_1 x5_1).f0), .slice A269_1 ((rd_T93 l0_1 x5_1).f1).length c269_1, .int .i64 ((rd_T93 l0_1 x5_1).f2), .int .i64 0, .int .i64 0]) ?_ 3 _ rfl; refine pl ?_; refine blk_put (cs := #[.string ((rd_T93 l0_1 x5_1).f0), .slice A269_1 ((rd_T93 l0_1 x5_1).f1).length c269_1, .int .i64 0, .int .i64 0, .int .i64 0]) ?_ 2 _ rfl; refine pl ?_; refine blk_put (cs := #[.string ((rd_T93 l0_1 x5_1).f0), .slice none 0 0, .int .i64 0, .int .i64 0, .int .i64 0]) ?_ 1 _ rfl; refine pl ?_; refine blk_put (cs := #[.string (⟨#[]⟩ : ByteArray), .slice none 0 0, .int .i64 0, .int .i64 0, .int .i64 0]) ?_ 0 _ rfl; exact bx BK270.out)) : gb270 ≠ gb272)); have NB272_270 := As.mk ((by rw [hg]; exact Nat.ne_of_gt (blk_lt (g := gb270) (o := .cells #[.string ((rd_T93 l0_1 x5_1).f0), .slice A269_1 ((rd_T93 l0_1 x5_1).f1).length c269_1, .int .i64 ((rd_T93 l0_1 x5_1).f2), .int .i64 ((rd_T93 l0_1 x5_1).f3), .int .i64 ((rd_T93 l0_1 x5_1).f4)] 93 (0, 0)) (by refine pl ?_; refine blk_put (cs := #[.string ((rd_T93 l0_1 x5_1).f0), .slice A269_1 ((rd_T93 l0_1 x5_1).f1).length c269_1, .int .i64 ((rd_T93 l0_1 x5_1).f2), .int .i64 ((rd_T93 l0_1 x5_1).f3), .int .i64 0]) ?_ 4 _ rfl; refine pl ?_; refine blk_put (cs := #[.string ((rd_T93 l0_1 x5_1).f0), .slice A269_1 ((rd_T93 l0_1 x5_1).f1).length c269_1, .int .i64 ((rd_T93 l0_1 x5_1).f2), .int .i64 0, .int .i64 0]) ?_ 3 _ rfl; refine pl ?_; refine blk_put (cs := #[.string ((rd_T93 l0_1 x5_1).f0), .slice A269_1 ((rd_T93 l0_1 x5_1).f1).length c269_1, .int .i64 0, .int .i64 0, .int .i64 0]) ?_ 2 _ rfl; refine pl ?_; refine blk_put (cs := #[.string ((rd_T93 l0_1 x5_1).f0), .slice none 0 0, .int .i64 0, .int .i64 0, .int .i64 0]) ?_ 1 _ rfl; refine pl ?_; refine blk_put (cs := #[.string (⟨#[]⟩ : ByteArray), .slice none 0 0, .int .i64 0, .int .i64 0, .int .i64 0]) ?_ 0 _ rfl; exact bx BK270.out)) : gb272 ≠ gb270)); replace BK270 := As.mk (blk_below (g := gb270) (o := .cells #[.string ((rd_T93 l0_1 x5_1).f0), .slice A269_1 ((rd_T93 l0_1 x5_1).f1).length c269_1, .int .i64 ((rd_T93 l0_1 x5_1).f2), .int .i64 ((rd_T93 l0_1 x5_1).f3), .int .i64 ((rd_T93 l0_1 x5_1).f4)] 93 (0, 0)) (by refine pl ?_; refine blk_put (cs := #[.string ((rd_T93 l0_1 x5_1).f0), .slice A269_1 ((rd_T93 l0_1 x5_1).f1).length c269_1, .int .i64 ((rd_T93 l0_1 x5_1).f2), .int .i64 ((rd_T93 l0_1 x5_1).f3), .int .i64 0]) ?_ 4 _ rfl; refine pl ?_; refine blk_put (cs := #[.string ((rd_T93 l0_1 x5_1).f0), .slice A269_1 ((rd_T93 l0_1 x5_1).f1).length c269_1, .int .i64 ((rd_T93 l0_1 x5_1).f2), .int .i64 0, .int .i64 0]) ?_ 3 _ rfl; refine pl ?_; refine blk_put (cs := #[.string ((rd_T93 l0_1 x5_1).f0), .slice A269_1 ((rd_T93 l0_1 x5_1).f1).length c269_1, .int .i64 0, .int .i64 0, .int .i64 0]) ?_ 2 _ rfl; refine pl ?_; refine blk_put (cs := #[.string ((rd_T93 l0_1 x5_1).f0), .slice none 0 0, .int .i64 0, .int .i64 0, .int .i64 0]) ?_ 1 _ rfl; refine pl ?_; refine blk_put (cs := #[.string (⟨#[]⟩ : ByteArray), .slice none 0 0, .int .i64 0, .int .i64 0, .int .i64 0]) ?_ 0 _ rfl; exact bx BK270.out) hb); clear hb hbox hg; have hnb21 := NB272_267.out; have hnc21 := NB267_272.out; have hnb22 := NB272_268.out; have hnc22 := NB268_272.out; have hnb23 := NB272_270.out; have hnc23 := NB270_272.out; obtain ⟨hcz24_0, hcz24_1, hcz24_2, hcz24_3, hcz24_4, hfz24_0, hfz24_1, hfz24_2, hfz24_3, hfz24_4⟩ := cl5 BK272.out)))
   (try simp only [pk])
   go_cut [62] (fun v62 wc => ∃ (kq : Nat) (x62_11 : Bool), v62 = .bool x62_11 ∧ As (spec_SameProgram.j1 kq x5_1 x62_11 l0_0 l0_1 l1_0 l1_1 ((rd_T93 l0_1 x5_1).f0) ((rd_T93 l0_1 x5_1).f1) ((rd_T93 l0_1 x5_1).f2) ((rd_T93 l0_1 x5_1).f3) ((rd_T93 l0_1 x5_1).f4) ((rd_T93 l1_1 x5_1).f0) ((rd_T93 l1_1 x5_1).f1) ((rd_T93 l1_1 x5_1).f2) ((rd_T93 l1_1 x5_1).f3) ((rd_T93 l1_1 x5_1).f4) = some r) ∧ As (kq ≤ k1) ∧ As (wc.heap[gb267]? = some (.cells #[(.slice A0_0 l0_0.length c0_0), (.slice (some ad269) l0_1.length c0_1)] 52 (0, 0))) ∧ As (wc.heap[gb268]? = some (.cells #[(.slice A1_0 l1_0.length c1_0), (.slice (some ad271) l1_1.length c1_1)] 52 (0, 0))) ∧ As (wc.heap[gb270]? = some (.cells #[.string ((rd_T93 l0_1 x5_1).f0), (.slice A269_1 ((rd_T93 l0_1 x5_1).f1).length c269_1), .int .i64 ((rd_T93 l0_1 x5_1).f2), .int .i64 ((rd_T93 l0_1 x5_1).f3), .int .i64 ((rd_T93 l0_1 x5_1).f4)] 93 (0, 0))) ∧ As (wc.heap[gb272]? = some (.cells #[.string ((rd_T93 l1_1 x5_1).f0), (.slice A271_1 ((rd_T93 l1_1 x5_1).f1).length c271_1), .int .i64 ((rd_T93 l1_1 x5_1).f2), .int .i64 ((rd_T93 l1_1 x5_1).f3), .int .i64 ((rd_T93 l1_1 x5_1).f4)] 93 (0, 0))) ∧ As (Below w.heap.size w wc))
   case first =>
    have H := HC12.out
    clear HC12
    by_cases c25 : ((rd_T93 l0_1 x5_1).f0).toList = ((rd_T93 l1_1 x5_1).f0).toList
    rotate_left
    ·
     rw [if_neg c25] at H
     have c25b0 : (((rd_T93 l0_1 x5_1).f0).toList == ((rd_T93 l1_1 x5_1).f0).toList) = false := beq_eq_false_iff_ne.mpr c25
     have c25b1 : (((rd_T93 l0_1 x5_1).f0).toList != ((rd_T93 l1_1 x5_1).f0).toList) = true := bne_iff_ne.mpr c25
     (first | rw [c25b0] | (simp only [i64_w, i32_w]; rw [c25b0]) | skip)
     have H' := As.mk H
     clear H
     have hnb49 := NB270_267.out
     have hnc49 := NB267_270.out
     have hnb50 := NB270_268.out
     have hnc50 := NB268_270.out
     have hnb51 := NB270_272.out
     have hnc51 := NB272_270.out
     obtain ⟨hcz52_0, hcz52_1, hcz52_2, hcz52_3, hcz52_4, hfz52_0, hfz52_1, hfz52_2, hfz52_3, hfz52_4⟩ := cl5 BK270.out
     have hnb53 := NB272_267.out
     have hnc53 := NB267_272.out
     have hnb54 := NB272_268.out
     have hnc54 := NB268_272.out
     obtain ⟨hcz55_0, hcz55_1, hcz55_2, hcz55_3, hcz55_4, hfz55_0, hfz55_1, hfz55_2, hfz55_3, hfz55_4⟩ := cl5 BK272.out
     go_wp2
     go_meet
     case rel => exact ⟨_, (true), (by first | rfl | (simp; done) | (simp [*]; done)), H', ⟨by have := HK1.out; first | omega | exact Nat.le_refl _⟩, ⟨by refine pl ?_; refine blk_far ?_ NB267_272.out _; refine pl ?_; refine blk_far ?_ NB267_272.out _; refine pl ?_; refine blk_far ?_ NB267_272.out _; refine pl ?_; refine blk_far ?_ NB267_272.out _; refine pl ?_; refine blk_far ?_ NB267_272.out _; exact bx BK267.out⟩, ⟨by refine pl ?_; refine blk_far ?_ NB268_272.out _; refine pl ?_; refine blk_far ?_ NB268_272.out _; refine pl ?_; refine blk_far ?_ NB268_272.out _; refine pl ?_; refine blk_far ?_ NB268_272.out _; refine pl ?_; refine blk_far ?_ NB268_272.out _; exact bx BK268.out⟩, ⟨by refine pl ?_; refine blk_far ?_ NB270_272.out _; refine pl ?_; refine blk_far ?_ NB270_272.out _; refine pl ?_; refine blk_far ?_ NB270_272.out _; refine pl ?_; refine blk_far ?_ NB270_272.out _; refine pl ?_; refine blk_far ?_ NB270_272.out _; exact bx BK270.out⟩, ⟨by refine pl ?_; refine blk_put (cs := #[.string ((rd_T93 l1_1 x5_1).f0), .slice A271_1 ((rd_T93 l1_1 x5_1).f1).length c271_1, .int .i64 ((rd_T93 l1_1 x5_1).f2), .int .i64 ((rd_T93 l1_1 x5_1).f3), .int .i64 0]) ?_ 4 _ rfl; refine pl ?_; refine blk_put (cs := #[.string ((rd_T93 l1_1 x5_1).f0), .slice A271_1 ((rd_T93 l1_1 x5_1).f1).length c271_1, .int .i64 ((rd_T93 l1_1 x5_1).f2), .int .i64 0, .int .i64 0]) ?_ 3 _ rfl; refine pl ?_; refine blk_put (cs := #[.string ((rd_T93 l1_1 x5_1).f0), .slice A271_1 ((rd_T93 l1_1 x5_1).f1).length c271_1, .int .i64 0, .int .i64 0, .int .i64 0]) ?_ 2 _ rfl; refine pl ?_; refine blk_put (cs := #[.string ((rd_T93 l1_1 x5_1).f0), .slice none 0 0, .int .i64 0, .int .i64 0, .int .i64 0]) ?_ 1 _ rfl; refine pl ?_; refine blk_put (cs := #[.string (⟨#[]⟩ : ByteArray), .slice none 0 0, .int .i64 0, .int .i64 0, .int .i64 0]) ?_ 0 _ rfl; exact bx BK272.out⟩, ⟨be w⟩⟩
    rw [if_pos c25] at H
    have c25b0 : (((rd_T93 l0_1 x5_1).f0).toList == ((rd_T93 l1_1 x5_1).f0).toList) = true := beq_iff_eq.mpr c25
    have c25b1 : (((rd_T93 l0_1 x5_1).f0).toList != ((rd_T93 l1_1 x5_1).f0).toList) = false := bne_eq_false_iff_eq.mpr c25
    clear c25
    (first | rw [c25b0] | (simp only [i64_w, i32_w]; rw [c25b0]) | skip)
    by_cases c26 : ((rd_T93 l0_1 x5_1).f2) = ((rd_T93 l1_1 x5_1).f2)
    rotate_left
    ·
     rw [if_neg c26] at H
     have c26b0 : (((rd_T93 l0_1 x5_1).f2) == ((rd_T93 l1_1 x5_1).f2)) = false := beq_eq_false_iff_ne.mpr c26
     have c26b1 : (((rd_T93 l0_1 x5_1).f2) != ((rd_T93 l1_1 x5_1).f2)) = true := bne_iff_ne.mpr c26
     have H' := As.mk H
     clear H
     have hnb42 := NB270_267.out
     have hnc42 := NB267_270.out
     have hnb43 := NB270_268.out
     have hnc43 := NB268_270.out
     have hnb44 := NB270_272.out
     have hnc44 := NB272_270.out
     obtain ⟨hcz45_0, hcz45_1, hcz45_2, hcz45_3, hcz45_4, hfz45_0, hfz45_1, hfz45_2, hfz45_3, hfz45_4⟩ := cl5 BK270.out
     have hnb46 := NB272_267.out
     have hnc46 := NB267_272.out
     have hnb47 := NB272_268.out
     have hnc47 := NB268_272.out
     obtain ⟨hcz48_0, hcz48_1, hcz48_2, hcz48_3, hcz48_4, hfz48_0, hfz48_1, hfz48_2, hfz48_3, hfz48_4⟩ := cl5 BK272.out
     go_wp2
     go_meet
     case rel => exact ⟨_, (true), (by first | rfl | (simp; done) | (simp [*]; done)), H', ⟨by have := HK1.out; first | omega | exact Nat.le_refl _⟩, ⟨by refine pl ?_; refine blk_far ?_ NB267_272.out _; refine pl ?_; refine blk_far ?_ NB267_272.out _; refine pl ?_; refine blk_far ?_ NB267_272.out _; refine pl ?_; refine blk_far ?_ NB267_272.out _; refine pl ?_; refine blk_far ?_ NB267_272.out _; exact bx BK267.out⟩, ⟨by refine pl ?_; refine blk_far ?_ NB268_272.out _; refine pl ?_; refine blk_far ?_ NB268_272.out _; refine pl ?_; refine blk_far ?_ NB268_272.out _; refine pl ?_; refine blk_far ?_ NB268_272.out _; refine pl ?_; refine blk_far ?_ NB268_272.out _; exact bx BK268.out⟩, ⟨by refine pl ?_; refine blk_far ?_ NB270_272.out _; refine pl ?_; refine blk_far ?_ NB270_272.out _; refine pl ?_; refine blk_far ?_ NB270_272.out _; refine pl ?_; refine blk_far ?_ NB270_272.out _; refine pl ?_; refine blk_far ?_ NB270_272.out _; exact bx BK270.out⟩, ⟨by refine pl ?_; refine blk_put (cs := #[.string ((rd_T93 l1_1 x5_1).f0), .slice A271_1 ((rd_T93 l1_1 x5_1).f1).length c271_1, .int .i64 ((rd_T93 l1_1 x5_1).f2), .int .i64 ((rd_T93 l1_1 x5_1).f3), .int .i64 0]) ?_ 4 _ rfl; refine pl ?_; refine blk_put (cs := #[.string ((rd_T93 l1_1 x5_1).f0), .slice A271_1 ((rd_T93 l1_1 x5_1).f1).length c271_1, .int .i64 ((rd_T93 l1_1 x5_1).f2), .int .i64 0, .int .i64 0]) ?_ 3 _ rfl; refine pl ?_; refine blk_put (cs := #[.string ((rd_T93 l1_1 x5_1).f0), .slice A271_1 ((rd_T93 l1_1 x5_1).f1).length c271_1, .int .i64 0, .int .i64 0, .int .i64 0]) ?_ 2 _ rfl; refine pl ?_; refine blk_put (cs := #[.string ((rd_T93 l1_1 x5_1).f0), .slice none 0 0, .int .i64 0, .int .i64 0, .int .i64 0]) ?_ 1 _ rfl; refine pl ?_; refine blk_put (cs := #[.string (⟨#[]⟩ : ByteArray), .slice none 0 0, .int .i64 0, .int .i64 0, .int .i64 0]) ?_ 0 _ rfl; exact bx BK272.out⟩, ⟨be w⟩⟩
    rw [if_pos c26] at H
    have c26b0 : (((rd_T93 l0_1 x5_1).f2) == ((rd_T93 l1_1 x5_1).f2)) = true := beq_iff_eq.mpr c26
    have c26b1 : (((rd_T93 l0_1 x5_1).f2) != ((rd_T93 l1_1 x5_1).f2)) = false := bne_eq_false_iff_eq.mpr c26
    clear c26
    by_cases c27 : (((rd_T93 l0_1 x5_1).f1).length : Int) = (((rd_T93 l1_1 x5_1).f1).length : Int)
    rotate_left
    ·
     rw [if_neg c27] at H
     have c27b0 : ((((rd_T93 l0_1 x5_1).f1).length : Int) == (((rd_T93 l1_1 x5_1).f1).length : Int)) = false := beq_eq_false_iff_ne.mpr c27
     have c27b1 : ((((rd_T93 l0_1 x5_1).f1).length : Int) != (((rd_T93 l1_1 x5_1).f1).length : Int)) = true := bne_iff_ne.mpr c27
     have c27b2 : (((rd_T93 l0_1 x5_1).f1).length == ((rd_T93 l1_1 x5_1).f1).length) = false := by first | simpa using c27 | (simp at c27 ⊢; omega)
     have H' := As.mk H
     clear H
     have hnb35 := NB270_267.out
     have hnc35 := NB267_270.out
     have hnb36 := NB270_268.out
     have hnc36 := NB268_270.out
     have hnb37 := NB270_272.out
     have hnc37 := NB272_270.out
     obtain ⟨hcz38_0, hcz38_1, hcz38_2, hcz38_3, hcz38_4, hfz38_0, hfz38_1, hfz38_2, hfz38_3, hfz38_4⟩ := cl5 BK270.out
     have hnb39 := NB272_267.out
     have hnc39 := NB267_272.out
     have hnb40 := NB272_268.out
     have hnc40 := NB268_272.out
     obtain ⟨hcz41_0, hcz41_1, hcz41_2, hcz41_3, hcz41_4, hfz41_0, hfz41_1, hfz41_2, hfz41_3, hfz41_4⟩ := cl5 BK272.out
     go_wp2
     go_meet
     case rel => exact ⟨_, (true), (by first | rfl | (simp; done) | (simp [*]; done)), H', ⟨by have := HK1.out; first | omega | exact Nat.le_refl _⟩, ⟨by refine pl ?_; refine blk_far ?_ NB267_272.out _; refine pl ?_; refine blk_far ?_ NB267_272.out _; refine pl ?_; refine blk_far ?_ NB267_272.out _; refine pl ?_; refine blk_far ?_ NB267_272.out _; refine pl ?_; refine blk_far ?_ NB267_272.out _; exact bx BK267.out⟩, ⟨by refine pl ?_; refine blk_far ?_ NB268_272.out _; refine pl ?_; refine blk_far ?_ NB268_272.out _; refine pl ?_; refine blk_far ?_ NB268_272.out _; refine pl ?_; refine blk_far ?_ NB268_272.out _; refine pl ?_; refine blk_far ?_ NB268_272.out _; exact bx BK268.out⟩, ⟨by refine pl ?_; refine blk_far ?_ NB270_272.out _; refine pl ?_; refine blk_far ?_ NB270_272.out _; refine pl ?_; refine blk_far ?_ NB270_272.out _; refine pl ?_; refine blk_far ?_ NB270_272.out _; refine pl ?_; refine blk_far ?_ NB270_272.out _; exact bx BK270.out⟩, ⟨by refine pl ?_; refine blk_put (cs := #[.string ((rd_T93 l1_1 x5_1).f0), .slice A271_1 ((rd_T93 l1_1 x5_1).f1).length c271_1, .int .i64 ((rd_T93 l1_1 x5_1).f2), .int .i64 ((rd_T93 l1_1 x5_1).f3), .int .i64 0]) ?_ 4 _ rfl; refine pl ?_; refine blk_put (cs := #[.string ((rd_T93 l1_1 x5_1).f0), .slice A271_1 ((rd_T93 l1_1 x5_1).f1).length c271_1, .int .i64 ((rd_T93 l1_1 x5_1).f2), .int .i64 0, .int .i64 0]) ?_ 3 _ rfl; refine pl ?_; refine blk_put (cs := #[.string ((rd_T93 l1_1 x5_1).f0), .slice A271_1 ((rd_T93 l1_1 x5_1).f1).length c271_1, .int .i64 0, .int .i64 0, .int .i64 0]) ?_ 2 _ rfl; refine pl ?_; refine blk_put (cs := #[.string ((rd_T93 l1_1 x5_1).f0), .slice none 0 0, .int .i64 0, .int .i64 0, .int .i64 0]) ?_ 1 _ rfl; refine pl ?_; refine blk_put (cs := #[.string (⟨#[]⟩ : ByteArray), .slice none 0 0, .int .i64 0, .int .i64 0, .int .i64 0]) ?_ 0 _ rfl; exact bx BK272.out⟩, ⟨be w⟩⟩
    rw [if_pos c27] at H
    have c27b0 : ((((rd_T93 l0_1 x5_1).f1).length : Int) == (((rd_T93 l1_1 x5_1).f1).length : Int)) = true := beq_iff_eq.mpr c27
    have c27b1 : ((((rd_T93 l0_1 x5_1).f1).length : Int) != (((rd_T93 l1_1 x5_1).f1).length : Int)) = false := bne_eq_false_iff_eq.mpr c27
    have c27b2 : (((rd_T93 l0_1 x5_1).f1).length == ((rd_T93 l1_1 x5_1).f1).length) = true := by first | simpa using c27 | (simp at c27 ⊢; omega)
    clear c27
    have H' := As.mk H
    clear H
    have hnb28 := NB270_267.out
    have hnc28 := NB267_270.out
    have hnb29 := NB270_268.out
    have hnc29 := NB268_270.out
    have hnb30 := NB270_272.out
    have hnc30 := NB272_270.out
    obtain ⟨hcz31_0, hcz31_1, hcz31_2, hcz31_3, hcz31_4, hfz31_0, hfz31_1, hfz31_2, hfz31_3, hfz31_4⟩ := cl5 BK270.out
    have hnb32 := NB272_267.out
    have hnc32 := NB267_272.out
    have hnb33 := NB272_268.out
    have hnc33 := NB268_272.out
    obtain ⟨hcz34_0, hcz34_1, hcz34_2, hcz34_3, hcz34_4, hfz34_0, hfz34_1, hfz34_2, hfz34_3, hfz34_4⟩ := cl5 BK272.out
    go_wp2
    go_meet
    case rel => exact ⟨_, (((decide (((rd_T93 l0_1 x5_1).f4) < 0)) != (decide (((rd_T93 l1_1 x5_1).f4) < 0)))), (by first | rfl | (simp; done) | (simp [*]; done)), H', ⟨by have := HK1.out; first | omega | exact Nat.le_refl _⟩, ⟨by refine pl ?_; refine blk_far ?_ NB267_272.out _; refine pl ?_; refine blk_far ?_ NB267_272.out _; refine pl ?_; refine blk_far ?_ NB267_272.out _; refine pl ?_; refine blk_far ?_ NB267_272.out _; refine pl ?_; refine blk_far ?_ NB267_272.out _; exact bx BK267.out⟩, ⟨by refine pl ?_; refine blk_far ?_ NB268_272.out _; refine pl ?_; refine blk_far ?_ NB268_272.out _; refine pl ?_; refine blk_far ?_ NB268_272.out _; refine pl ?_; refine blk_far ?_ NB268_272.out _; refine pl ?_; refine blk_far ?_ NB268_272.out _; exact bx BK268.out⟩, ⟨by refine pl ?_; refine blk_far ?_ NB270_272.out _; refine pl ?_; refine blk_far ?_ NB270_272.out _; refine pl ?_; refine blk_far ?_ NB270_272.out _; refine pl ?_; refine blk_far ?_ NB270_272.out _; refine pl ?_; refine blk_far ?_ NB270_272.out _; exact bx BK270.out⟩, ⟨by refine pl ?_; refine blk_put (cs := #[.string ((rd_T93 l1_1 x5_1).f0), .slice A271_1 ((rd_T93 l1_1 x5_1).f1).length c271_1, .int .i64 ((rd_T93 l1_1 x5_1).f2), .int .i64 ((rd_T93 l1_1 x5_1).f3), .int .i64 0]) ?_ 4 _ rfl; refine pl ?_; refine blk_put (cs := #[.string ((rd_T93 l1_1 x5_1).f0), .slice A271_1 ((rd_T93 l1_1 x5_1).f1).length c271_1, .int .i64 ((rd_T93 l1_1 x5_1).f2), .int .i64 0, .int .i64 0]) ?_ 3 _ rfl; refine pl ?_; refine blk_put (cs := #[.string ((rd_T93 l1_1 x5_1).f0), .slice A271_1 ((rd_T93 l1_1 x5_1).f1).length c271_1, .int .i64 0, .int .i64 0, .int .i64 0]) ?_ 2 _ rfl; refine pl ?_; refine blk_put (cs := #[.string ((rd_T93 l1_1 x5_1).f0), .slice none 0 0, .int .i64 0, .int .i64 0, .int .i64 0]) ?_ 1 _ rfl; refine pl ?_; refine blk_put (cs := #[.string (⟨#[]⟩ : ByteArray), .slice none 0 0, .int .i64 0, .int .i64 0, .int .i64 0]) ?_ 0 _ rfl; exact bx BK272.out⟩, ⟨be w⟩⟩
   case rest =>
    clear HC12
    (try clear c3); (try clear c3b0); (try clear c3b1); (try clear c3b2); (try clear c9); (try clear c9b0); (try clear c10); (try clear c10b0); (try clear c11); (try clear c11b0); (try clear hcz14_0); (try clear hcz14_1); (try clear hcz18_0); (try clear hcz18_1); (try clear hcz18_2); (try clear hcz18_3); (try clear hcz18_4); (try clear hcz19_0); (try clear hcz19_1); (try clear hcz24_0); (try clear hcz24_1); (try clear hcz24_2); (try clear hcz24_3); (try clear hcz24_4); (try clear hcz7_0); (try clear hcz7_1); (try clear hcz8_0); (try clear hcz8_1); (try clear hfz14_0); (try clear hfz14_1); (try clear hfz18_0); (try clear hfz18_1); (try clear hfz18_2); (try clear hfz18_3); (try clear hfz18_4); (try clear hfz19_0); (try clear hfz19_1); (try clear hfz24_0); (try clear hfz24_1); (try clear hfz24_2); (try clear hfz24_3); (try clear hfz24_4); (try clear hfz7_0); (try clear hfz7_1); (try clear hfz8_0); (try clear hfz8_1); (try clear hx269_0); (try clear hx269_1); (try clear hx269_2); (try clear hx269_3); (try clear hx269_4); (try clear hx271_0); (try clear hx271_1); (try clear hx271_2); (try clear hx271_3); (try clear hx271_4); (try clear p269); (try clear p271); (try clear q269); (try clear q271)
    obtain ⟨kq, x62_11, rfl, HA, HJ11, BK267, BK268, BK270, BK272, HB⟩ := hcut
    cases kq with
    | zero => exact absurd HA.out (by simp [spec_SameProgram.j1])
    | succ kj11 =>
     have H := HA.out
     clear HA
     simp only [spec_SameProgram.j1] at H
     by_cases c56 : x62_11 = true
     ·
      subst c56
      rw [if_pos rfl] at H
      obtain rfl := Option.some.inj H
      go_wp2
      go_ret
      exact ⟨by first | rfl | (simp [errW_none, errW_some] <;> rfl) | (simp [*, errW_none, errW_some] <;> rfl), be w⟩
     replace c56 := Bool.eq_false_iff.mpr c56
     subst c56
     rw [if_neg (show ¬ (false = true) by decide)] at H
     have H' := As.mk H
     clear H
     go_wp2
     go_loopg [8] kj11 (fun kq v8 w' => ∃ (x8_3 : Int), v8 = .int .i64 x8_3 ∧ As (spec_SameProgram.l1 kq x5_1 x8_3 l0_0 l0_1 l1_0 l1_1 ((rd_T93 l0_1 x5_1).f0) ((rd_T93 l0_1 x5_1).f1) ((rd_T93 l0_1 x5_1).f2) ((rd_T93 l0_1 x5_1).f3) ((rd_T93 l0_1 x5_1).f4) ((rd_T93 l1_1 x5_1).f0) ((rd_T93 l1_1 x5_1).f1) ((rd_T93 l1_1 x5_1).f2) ((rd_T93 l1_1 x5_1).f3) ((rd_T93 l1_1 x5_1).f4) = some r) ∧ As (kq ≤ kj11) ∧ As (w'.heap[gb267]? = some (.cells #[(.slice A0_0 l0_0.length c0_0), (.slice (some ad269) l0_1.length c0_1)] 52 (0, 0))) ∧ As (w'.heap[gb268]? = some (.cells #[(.slice A1_0 l1_0.length c1_0), (.slice (some ad271) l1_1.length c1_1)] 52 (0, 0))) ∧ As (w'.heap[gb270]? = some (.cells #[.string ((rd_T93 l0_1 x5_1).f0), (.slice A269_1 ((rd_T93 l0_1 x5_1).f1).length c269_1), .int .i64 ((rd_T93 l0_1 x5_1).f2), .int .i64 ((rd_T93 l0_1 x5_1).f3), .int .i64 ((rd_T93 l0_1 x5_1).f4)] 93 (0, 0))) ∧ As (w'.heap[gb272]? = some (.cells #[.string ((rd_T93 l1_1 x5_1).f0), (.slice A271_1 ((rd_T93 l1_1 x5_1).f1).length c271_1), .int .i64 ((rd_T93 l1_1 x5_1).f2), .int .i64 ((rd_T93 l1_1 x5_1).f3), .int .i64 ((rd_T93 l1_1 x5_1).f4)] 93 (0, 0))) ∧ As (Below w.heap.size w w'))
     case atStart => exact ⟨(0), (by first | rfl | (simp; done) | (simp [*]; done)), H', ⟨Nat.le_refl _⟩, ⟨bx BK267.out⟩, ⟨bx BK268.out⟩, ⟨bx BK270.out⟩, ⟨bx BK272.out⟩, ⟨be w⟩⟩
     case round =>
      clear H'
      (try clear c3); (try clear c3b0); (try clear c3b1); (try clear c3b2); (try clear c9); (try clear c9b0); (try clear c10); (try clear c10b0); (try clear c11); (try clear c11b0); (try clear c56); (try clear hcz14_0); (try clear hcz14_1); (try clear hcz18_0); (try clear hcz18_1); (try clear hcz18_2); (try clear hcz18_3); (try clear hcz18_4); (try clear hcz19_0); (try clear hcz19_1); (try clear hcz24_0); (try clear hcz24_1); (try clear hcz24_2); (try clear hcz24_3); (try clear hcz24_4); (try clear hcz7_0); (try clear hcz7_1); (try clear hcz8_0); (try clear hcz8_1); (try clear hfz14_0); (try clear hfz14_1); (try clear hfz18_0); (try clear hfz18_1); (try clear hfz18_2); (try clear hfz18_3); (try clear hfz18_4); (try clear hfz19_0); (try clear hfz19_1); (try clear hfz24_0); (try clear hfz24_1); (try clear hfz24_2); (try clear hfz24_3); (try clear hfz24_4); (try clear hfz7_0); (try clear hfz7_1); (try clear hfz8_0); (try clear hfz8_1); (try clear hx269_0); (try clear hx269_1); (try clear hx269_2); (try clear hx269_3); (try clear hx269_4); (try clear hx271_0); (try clear hx271_1); (try clear hx271_2); (try clear hx271_3); (try clear hx271_4); (try clear p269); (try clear p271); (try clear q269); (try clear q271)
      obtain ⟨x8_3, rfl, HA, HK3, BK267, BK268, BK270, BK272, HB⟩ := hrel
      cases gk with
      | zero => exact absurd HA.out (by simp [spec_SameProgram.l1])
      | succ k3 =>
       have H := HA.out
       clear HA
       simp only [spec_SameProgram.l1] at H
       by_cases c57 : x8_3 < (((rd_T93 l0_1 x5_1).f1).length : Int)
       ·
        rw [if_pos c57] at H
        have c57b0 : decide (x8_3 < (((rd_T93 l0_1 x5_1).f1).length : Int)) = true := decide_eq_true c57
        clear c57
        by_cases c58 : 0 ≤ x8_3
        rotate_left
        ·
         rw [if_neg c58] at H
         exact absurd H (by simp)
        rw [if_pos c58] at H
        have c58b0 : decide (0 ≤ x8_3) = true := decide_eq_true c58
        clear c58
        by_cases c59 : x8_3 < (((rd_T93 l1_1 x5_1).f1).length : Int)
        rotate_left
        ·
         rw [if_neg c59] at H
         exact absurd H (by simp)
        rw [if_pos c59] at H
        have c59b0 : decide (x8_3 < (((rd_T93 l1_1 x5_1).f1).length : Int)) = true := decide_eq_true c59
        clear c59
        by_cases c60 : (!((((rd_T95 ((rd_T93 l0_1 x5_1).f1) x8_3).f0).toList) == (((rd_T95 ((rd_T93 l1_1 x5_1).f1) x8_3).f0).toList)) || (!(((rd_T95 ((rd_T93 l0_1 x5_1).f1) x8_3).f1) == ((rd_T95 ((rd_T93 l1_1 x5_1).f1) x8_3).f1)))) = true
        ·
         rw [if_pos c60] at H
         have c60b0 : (!((((rd_T95 ((rd_T93 l0_1 x5_1).f1) x8_3).f0).toList) == (((rd_T95 ((rd_T93 l1_1 x5_1).f1) x8_3).f0).toList)) || (!(((rd_T95 ((rd_T93 l0_1 x5_1).f1) x8_3).f1) == ((rd_T95 ((rd_T93 l1_1 x5_1).f1) x8_3).f1)))) = true := c60
         clear c60
         obtain rfl := Option.some.inj H
         have hnb61 := NB270_272.out
         have hnc61 := NB272_270.out
         obtain ⟨hcz62_0, hcz62_1, hcz62_2, hcz62_3, hcz62_4, hfz62_0, hfz62_1, hfz62_2, hfz62_3, hfz62_4⟩ := cl5 BK270.out
         have p273 : 0 ≤ (x8_3 : Int) := of_decide_eq_true (by first | (with_reducible assumption) | assumption)
         have q273 : x8_3 < (((rd_T93 l0_1 x5_1).f1).length : Int) := of_decide_eq_true (by first | (with_reducible assumption) | assumption)
         obtain ⟨ad273, e273, hx273_0, hx273_1⟩ := at_T95 HR269_1.out x8_3 p273 q273
         cases e273
         replace hx273_0 := ce HB.out hx273_0
         replace hx273_1 := ce HB.out hx273_1
         replace p273 := eq_true p273
         replace q273 := eq_true q273
         obtain ⟨hcz63_0, hcz63_1, hcz63_2, hcz63_3, hcz63_4, hfz63_0, hfz63_1, hfz63_2, hfz63_3, hfz63_4⟩ := cl5 BK272.out
         have p274 : 0 ≤ (x8_3 : Int) := of_decide_eq_true (by first | (with_reducible assumption) | assumption)
         have q274 : x8_3 < (((rd_T93 l1_1 x5_1).f1).length : Int) := of_decide_eq_true (by first | (with_reducible assumption) | assumption)
         obtain ⟨ad274, e274, hx274_0, hx274_1⟩ := at_T95 HR271_1.out x8_3 p274 q274
         cases e274
         replace hx274_0 := ce HB.out hx274_0
         replace hx274_1 := ce HB.out hx274_1
         replace p274 := eq_true p274
         replace q274 := eq_true q274
         go_wp2
         (try go_quiet (fail))
         try go_wp2
         go_ret
         exact ⟨by first | rfl | (simp [errW_none, errW_some] <;> rfl) | (simp [*, errW_none, errW_some] <;> rfl), be w⟩
        rw [if_neg c60] at H
        have c60b0 : (!((((rd_T95 ((rd_T93 l0_1 x5_1).f1) x8_3).f0).toList) == (((rd_T95 ((rd_T93 l1_1 x5_1).f1) x8_3).f0).toList)) || (!(((rd_T95 ((rd_T93 l0_1 x5_1).f1) x8_3).f1) == ((rd_T95 ((rd_T93 l1_1 x5_1).f1) x8_3).f1)))) = false := by simpa using c60
        clear c60
        have H' := As.mk H
        clear H
        have hnb64 := NB270_267.out
        have hnc64 := NB267_270.out
        have hnb65 := NB270_268.out
        have hnc65 := NB268_270.out
        have hnb66 := NB270_272.out
        have hnc66 := NB272_270.out
        obtain ⟨hcz67_0, hcz67_1, hcz67_2, hcz67_3, hcz67_4, hfz67_0, hfz67_1, hfz67_2, hfz67_3, hfz67_4⟩ := cl5 BK270.out
        have p273 : 0 ≤ (x8_3 : Int) := of_decide_eq_true (by first | (with_reducible assumption) | assumption)
        have q273 : x8_3 < (((rd_T93 l0_1 x5_1).f1).length : Int) := of_decide_eq_true (by first | (with_reducible assumption) | assumption)
        obtain ⟨ad273, e273, hx273_0, hx273_1⟩ := at_T95 HR269_1.out x8_3 p273 q273
        cases e273
        replace hx273_0 := ce HB.out hx273_0
        replace hx273_1 := ce HB.out hx273_1
        replace p273 := eq_true p273
        replace q273 := eq_true q273
        have hnb68 := NB272_267.out
        have hnc68 := NB267_272.out
        have hnb69 := NB272_268.out
        have hnc69 := NB268_272.out
        obtain ⟨hcz70_0, hcz70_1, hcz70_2, hcz70_3, hcz70_4, hfz70_0, hfz70_1, hfz70_2, hfz70_3, hfz70_4⟩ := cl5 BK272.out
        have p274 : 0 ≤ (x8_3 : Int) := of_decide_eq_true (by first | (with_reducible assumption) | assumption)
        have q274 : x8_3 < (((rd_T93 l1_1 x5_1).f1).length : Int) := of_decide_eq_true (by first | (with_reducible assumption) | assumption)
        obtain ⟨ad274, e274, hx274_0, hx274_1⟩ := at_T95 HR271_1.out x8_3 p274 q274
        cases e274
        replace hx274_0 := ce HB.out hx274_0
        replace hx274_1 := ce HB.out hx274_1
        replace p274 := eq_true p274
        replace q274 := eq_true q274
        go_wp2
        (try go_quiet (fail))
        try go_wp2
        go_roundg k3
        case measure => have := HK1.out; have := HJ11.out; have := HK3.out; omega
        case rel => exact ⟨(wrap64 (x8_3 + 1)), (by first | rfl | (simp; done) | (simp [*]; done)), H', ⟨by have := HK1.out; have := HJ11.out; have := HK3.out; omega⟩, ⟨bx BK267.out⟩, ⟨bx BK268.out⟩, ⟨bx BK270.out⟩, ⟨bx BK272.out⟩, ⟨be w⟩⟩
       rw [if_neg c57] at H
       have c57b0 : decide (x8_3 < (((rd_T93 l0_1 x5_1).f1).length : Int)) = false := decide_eq_false c57
       clear c57
       obtain ⟨t275, A710, H⟩ := Option.bind_eq_some_iff.mp H
       try dsimp only at H
       have A71 := As.mk A710
       clear A710
       by_cases c72 : t275 = true
       rotate_left
       ·
        replace c72 := Bool.eq_false_iff.mpr c72
        subst c72
        rw [if_neg (show ¬ (false = true) by decide)] at H
        obtain rfl := Option.some.inj H
        have hnb120 := NB270_267.out
        have hnc120 := NB267_270.out
        have hnb121 := NB270_268.out
        have hnc121 := NB268_270.out
        have hnb122 := NB270_272.out
        have hnc122 := NB272_270.out
        obtain ⟨hcz123_0, hcz123_1, hcz123_2, hcz123_3, hcz123_4, hfz123_0, hfz123_1, hfz123_2, hfz123_3, hfz123_4⟩ := cl5 BK270.out
        have hnb124 := NB267_268.out
        have hnc124 := NB268_267.out
        have hnb125 := NB267_272.out
        have hnc125 := NB272_267.out
        obtain ⟨hcz126_0, hcz126_1, hfz126_0, hfz126_1⟩ := cl2 BK267.out
        have hnb127 := NB268_272.out
        have hnc127 := NB272_268.out
        obtain ⟨hcz128_0, hcz128_1, hfz128_0, hfz128_1⟩ := cl2 BK268.out
        obtain ⟨hcz129_0, hcz129_1, hcz129_2, hcz129_3, hcz129_4, hfz129_0, hfz129_1, hfz129_2, hfz129_3, hfz129_4⟩ := cl5 BK272.out
        go_wp2_with (first | (go_at_call 30; (with_reducible refine (spec_SameTree.calls k3 _ _ l0_0 _ _ l0_1 ((rd_T93 l0_1 x5_1).f3) _ _ l1_0 _ _ l1_1 ((rd_T93 l1_1 x5_1).f3) false _ ?side1 ?side2 ?side3 ?side4 ?side5 ?side6 ?side7 ?side8 A71.out).mono ?_); (case side1 => exact Kd.C_below HR0_0.out (be w)); (case side2 => exact HC0_0.out); (case side3 => exact Kd.C_below HR0_1.out (be w)); (case side4 => exact HC0_1.out); (case side5 => exact Kd.C_below HR1_0.out (be w)); (case side6 => exact HC1_0.out); (case side7 => exact Kd.C_below HR1_1.out (be w)); (case side8 => exact HC1_1.out); rintro e w130 ⟨rfl, hb⟩; replace HB := As.mk (below_step (be w) hb); (try clear hb); (try clear hb2); (try clear hk); (try clear hi)))
        go_ret
        exact ⟨by first | rfl | (simp [errW_none, errW_some] <;> rfl) | (simp [*, errW_none, errW_some] <;> rfl), be w⟩
       subst c72
       rw [if_pos rfl] at H
       by_cases c73 : ((rd_T93 l0_1 x5_1).f4) ≥ 0
       rotate_left
       ·
        rw [if_neg c73] at H
        have c73b0 : decide (0 ≤ ((rd_T93 l0_1 x5_1).f4)) = false := decide_eq_false c73
        clear c73
        have H' := As.mk H
        clear H
        have hnb108 := NB270_267.out
        have hnc108 := NB267_270.out
        have hnb109 := NB270_268.out
        have hnc109 := NB268_270.out
        have hnb110 := NB270_272.out
        have hnc110 := NB272_270.out
        obtain ⟨hcz111_0, hcz111_1, hcz111_2, hcz111_3, hcz111_4, hfz111_0, hfz111_1, hfz111_2, hfz111_3, hfz111_4⟩ := cl5 BK270.out
        have hnb112 := NB267_268.out
        have hnc112 := NB268_267.out
        have hnb113 := NB267_272.out
        have hnc113 := NB272_267.out
        obtain ⟨hcz114_0, hcz114_1, hfz114_0, hfz114_1⟩ := cl2 BK267.out
        have hnb115 := NB268_272.out
        have hnc115 := NB272_268.out
        obtain ⟨hcz116_0, hcz116_1, hfz116_0, hfz116_1⟩ := cl2 BK268.out
        obtain ⟨hcz117_0, hcz117_1, hcz117_2, hcz117_3, hcz117_4, hfz117_0, hfz117_1, hfz117_2, hfz117_3, hfz117_4⟩ := cl5 BK272.out
        go_wp2_with (first | (go_at_call 30; (with_reducible refine (spec_SameTree.calls k3 _ _ l0_0 _ _ l0_1 ((rd_T93 l0_1 x5_1).f3) _ _ l1_0 _ _ l1_1 ((rd_T93 l1_1 x5_1).f3) true _ ?side1 ?side2 ?side3 ?side4 ?side5 ?side6 ?side7 ?side8 A71.out).mono ?_); (case side1 => exact Kd.C_below HR0_0.out (be w)); (case side2 => exact HC0_0.out); (case side3 => exact Kd.C_below HR0_1.out (be w)); (case side4 => exact HC0_1.out); (case side5 => exact Kd.C_below HR1_0.out (be w)); (case side6 => exact HC1_0.out); (case side7 => exact Kd.C_below HR1_1.out (be w)); (case side8 => exact HC1_1.out); rintro e w118 ⟨rfl, hb⟩; replace BK267 := As.mk (blk_below (bx BK267.out) hb); replace BK268 := As.mk (blk_below (bx BK268.out) hb); replace BK270 := As.mk (blk_below (bx BK270.out) hb); replace HB := As.mk (below_step (be w) hb); (try clear hb); (try clear hb2); (try clear hk); (try clear hi); obtain ⟨hcz119_0, hcz119_1, hcz119_2, hcz119_3, hcz119_4, hfz119_0, hfz119_1, hfz119_2, hfz119_3, hfz119_4⟩ := cl5 BK270.out))
        go_roundg k3
        case measure => have := HK1.out; have := HJ11.out; have := HK3.out; omega
        case rel => exact ⟨(wrap64 (x5_1 + 1)), (by first | rfl | (simp; done) | (simp [*]; done)), H', ⟨by have := HK1.out; have := HJ11.out; have := HK3.out; omega⟩, ⟨bx BK267.out⟩, ⟨bx BK268.out⟩, ⟨be w⟩⟩
       rw [if_pos c73] at H
       have c73b0 : decide (0 ≤ ((rd_T93 l0_1 x5_1).f4)) = true := decide_eq_true c73
       clear c73
       obtain ⟨t276, A740, H⟩ := Option.bind_eq_some_iff.mp H
       try dsimp only at H
       have A74 := As.mk A740
       clear A740
       by_cases c75 : t276 = true
       rotate_left
       ·
        replace c75 := Bool.eq_false_iff.mpr c75
        subst c75
        rw [if_neg (show ¬ (false = true) by decide)] at H
        obtain rfl := Option.some.inj H
        have hnb92 := NB270_267.out
        have hnc92 := NB267_270.out
        have hnb93 := NB270_268.out
        have hnc93 := NB268_270.out
        have hnb94 := NB270_272.out
        have hnc94 := NB272_270.out
        obtain ⟨hcz95_0, hcz95_1, hcz95_2, hcz95_3, hcz95_4, hfz95_0, hfz95_1, hfz95_2, hfz95_3, hfz95_4⟩ := cl5 BK270.out
        have hnb96 := NB267_268.out
        have hnc96 := NB268_267.out
        have hnb97 := NB267_272.out
        have hnc97 := NB272_267.out
        obtain ⟨hcz98_0, hcz98_1, hfz98_0, hfz98_1⟩ := cl2 BK267.out
        have hnb99 := NB268_272.out
        have hnc99 := NB272_268.out
        obtain ⟨hcz100_0, hcz100_1, hfz100_0, hfz100_1⟩ := cl2 BK268.out
        obtain ⟨hcz101_0, hcz101_1, hcz101_2, hcz101_3, hcz101_4, hfz101_0, hfz101_1, hfz101_2, hfz101_3, hfz101_4⟩ := cl5 BK272.out
        go_wp2_with (first | (go_at_call 30; (with_reducible refine (spec_SameTree.calls k3 _ _ l0_0 _ _ l0_1 ((rd_T93 l0_1 x5_1).f3) _ _ l1_0 _ _ l1_1 ((rd_T93 l1_1 x5_1).f3) true _ ?side1 ?side2 ?side3 ?side4 ?side5 ?side6 ?side7 ?side8 A71.out).mono ?_); (case side1 => exact Kd.C_below HR0_0.out (be w)); (case side2 => exact HC0_0.out); (case side3 => exact Kd.C_below HR0_1.out (be w)); (case side4 => exact HC0_1.out); (case side5 => exact Kd.C_below HR1_0.out (be w)); (case side6 => exact HC1_0.out); (case side7 => exact Kd.C_below HR1_1.out (be w)); (case side8 => exact HC1_1.out); rintro e w102 ⟨rfl, hb⟩; replace BK267 := As.mk (blk_below (bx BK267.out) hb); replace BK268 := As.mk (blk_below (bx BK268.out) hb); replace BK270 := As.mk (blk_below (bx BK270.out) hb); replace BK272 := As.mk (blk_below (bx BK272.out) hb); replace HB := As.mk (below_step (be w) hb); (try clear hb); (try clear hb2); (try clear hk); (try clear hi); obtain ⟨hcz103_0, hcz103_1, hcz103_2, hcz103_3, hcz103_4, hfz103_0, hfz103_1, hfz103_2, hfz103_3, hfz103_4⟩ := cl5 BK270.out; obtain ⟨hcz104_0, hcz104_1, hfz104_0, hfz104_1⟩ := cl2 BK267.out; obtain ⟨hcz105_0, hcz105_1, hfz105_0, hfz105_1⟩ := cl2 BK268.out; obtain ⟨hcz106_0, hcz106_1, hcz106_2, hcz106_3, hcz106_4, hfz106_0, hfz106_1, hfz106_2, hfz106_3, hfz106_4⟩ := cl5 BK272.out) | (go_at_call 30; (with_reducible refine (spec_SameTree.calls k3 _ _ l0_0 _ _ l0_1 ((rd_T93 l0_1 x5_1).f4) _ _ l1_0 _ _ l1_1 ((rd_T93 l1_1 x5_1).f4) false _ ?side1 ?side2 ?side3 ?side4 ?side5 ?side6 ?side7 ?side8 A74.out).mono ?_); (case side1 => exact Kd.C_below HR0_0.out (be w)); (case side2 => exact HC0_0.out); (case side3 => exact Kd.C_below HR0_1.out (be w)); (case side4 => exact HC0_1.out); (case side5 => exact Kd.C_below HR1_0.out (be w)); (case side6 => exact HC1_0.out); (case side7 => exact Kd.C_below HR1_1.out (be w)); (case side8 => exact HC1_1.out); rintro e w107 ⟨rfl, hb⟩; replace HB := As.mk (below_step (be w) hb); (try clear hb); (try clear hb2); (try clear hk); (try clear hi)))
        go_ret
        exact ⟨by first | rfl | (simp [errW_none, errW_some] <;> rfl) | (simp [*, errW_none, errW_some] <;> rfl), be w⟩
       subst c75
       rw [if_pos rfl] at H
       have H' := As.mk H
       clear H
       have hnb76 := NB270_267.out
       have hnc76 := NB267_270.out
       have hnb77 := NB270_268.out
       have hnc77 := NB268_270.out
       have hnb78 := NB270_272.out
       have hnc78 := NB272_270.out
       obtain ⟨hcz79_0, hcz79_1, hcz79_2, hcz79_3, hcz79_4, hfz79_0, hfz79_1, hfz79_2, hfz79_3, hfz79_4⟩ := cl5 BK270.out
       have hnb80 := NB267_268.out
       have hnc80 := NB268_267.out
       have hnb81 := NB267_272.out
       have hnc81 := NB272_267.out
       obtain ⟨hcz82_0, hcz82_1, hfz82_0, hfz82_1⟩ := cl2 BK267.out
       have hnb83 := NB268_272.out
       have hnc83 := NB272_268.out
       obtain ⟨hcz84_0, hcz84_1, hfz84_0, hfz84_1⟩ := cl2 BK268.out
       obtain ⟨hcz85_0, hcz85_1, hcz85_2, hcz85_3, hcz85_4, hfz85_0, hfz85_1, hfz85_2, hfz85_3, hfz85_4⟩ := cl5 BK272.out
       go_wp2_with (first | (go_at_call 30; (with_reducible refine (spec_SameTree.calls k3 _ _ l0_0 _ _ l0_1 ((rd_T93 l0_1 x5_1).f3) _ _ l1_0 _ _ l1_1 ((rd_T93 l1_1 x5_1).f3) true _ ?side1 ?side2 ?side3 ?side4 ?side5 ?side6 ?side7 ?side8 A71.out).mono ?_); (case side1 => exact Kd.C_below HR0_0.out (be w)); (case side2 => exact HC0_0.out); (case side3 => exact Kd.C_below HR0_1.out (be w)); (case side4 => exact HC0_1.out); (case side5 => exact Kd.C_below HR1_0.out (be w)); (case side6 => exact HC1_0.out); (case side7 => exact Kd.C_below HR1_1.out (be w)); (case side8 => exact HC1_1.out); rintro e w86 ⟨rfl, hb⟩; replace BK267 := As.mk (blk_below (bx BK267.out) hb); replace BK268 := As.mk (blk_below (bx BK268.out) hb); replace BK270 := As.mk (blk_below (bx BK270.out) hb); replace BK272 := As.mk (blk_below (bx BK272.out) hb); replace HB := As.mk (below_step (be w) hb); (try clear hb); (try clear hb2); (try clear hk); (try clear hi); obtain ⟨hcz87_0, hcz87_1, hcz87_2, hcz87_3, hcz87_4, hfz87_0, hfz87_1, hfz87_2, hfz87_3, hfz87_4⟩ := cl5 BK270.out; obtain ⟨hcz88_0, hcz88_1, hfz88_0, hfz88_1⟩ := cl2 BK267.out; obtain ⟨hcz89_0, hcz89_1, hfz89_0, hfz89_1⟩ := cl2 BK268.out; obtain ⟨hcz90_0, hcz90_1, hcz90_2, hcz90_3, hcz90_4, hfz90_0, hfz90_1, hfz90_2, hfz90_3, hfz90_4⟩ := cl5 BK272.out) | (go_at_call 30; (with_reducible refine (spec_SameTree.calls k3 _ _ l0_0 _ _ l0_1 ((rd_T93 l0_1 x5_1).f4) _ _ l1_0 _ _ l1_1 ((rd_T93 l1_1 x5_1).f4) true _ ?side1 ?side2 ?side3 ?side4 ?side5 ?side6 ?side7 ?side8 A74.out).mono ?_); (case side1 => exact Kd.C_below HR0_0.out (be w)); (case side2 => exact HC0_0.out); (case side3 => exact Kd.C_below HR0_1.out (be w)); (case side4 => exact HC0_1.out); (case side5 => exact Kd.C_below HR1_0.out (be w)); (case side6 => exact HC1_0.out); (case side7 => exact Kd.C_below HR1_1.out (be w)); (case side8 => exact HC1_1.out); rintro e w91 ⟨rfl, hb⟩; replace BK267 := As.mk (blk_below (bx BK267.out) hb); replace BK268 := As.mk (blk_below (bx BK268.out) hb); replace HB := As.mk (below_step (be w) hb); (try clear hb); (try clear hb2); (try clear hk); (try clear hi)))
       go_roundg k3
       case measure => have := HK1.out; have := HJ11.out; have := HK3.out; omega
       case rel => exact ⟨(wrap64 (x5_1 + 1)), (by first | rfl | (simp; done) | (simp [*]; done)), H', ⟨by have := HK1.out; have := HJ11.out; have := HK3.out; omega⟩, ⟨bx BK267.out⟩, ⟨bx BK268.out⟩, ⟨be w⟩⟩
/-! ### impl_in: function 45 -/
def impl_in.f (a0 : Int) (a1 : Int) (a2 : Int) : Option (Bool) := if a0 ≥ a1 then (some (decide (a0 ≤ a2))) else (some false)
set_option maxHeartbeats 8000000 in
set_option maxRecDepth 100000 in
theorem impl_in.calls (a0 : Int) (a1 : Int) (a2 : Int) (r : Bool) (w : World) (h : impl_in.f a0 a1 a2 = some r) :
  Calls Tryd.prog 45 #[.int .i64 a0, .int .i64 a1, .int .i64 a2] w fun e w' => e = .returned (.bool r) ∧ Drawn0 w w' := by
 have H : (if a0 ≥ a1 then (some (decide (a0 ≤ a2))) else (some false)) = some r := h
 clear h
 by_cases c4 : a0 ≥ a1
 ·
  rw [if_pos c4] at H
  have c4b0 : decide (a1 ≤ a0) = true := decide_eq_true c4
  clear c4
  obtain rfl := Option.some.inj H
  go_enter Tryd.func45, Tryd.ntmps45
  go_wp2
  go_ret
  exact ⟨by first | rfl | (simp; done) | (simp [*]; done), by repeat (first | exact Drawn0.refl _ | apply Drawn0.step)⟩
 rw [if_neg c4] at H
 have c4b0 : decide (a1 ≤ a0) = false := decide_eq_false c4
 clear c4
 obtain rfl := Option.some.inj H
 go_enter Tryd.func45, Tryd.ntmps45
 go_wp2
 go_ret
 exact ⟨by first | rfl | (simp; done) | (simp [*]; done), by repeat (first | exact Drawn0.refl _ | apply Drawn0.step)⟩

/-! ### impl_shape: function 46 -/
mutual
def impl_shape.j0 : Nat → Int → Bool → Option (Int × Int)
 | 0, _, _ => none
 | k + 1, x4, x5 => if x5 = true then (some (1, 1)) else (if x4 = 9 then (impl_shape.j1 k x4 (x4 == 9)) else (if x4 = 10 then (impl_shape.j1 k x4 (x4 == 10)) else (if x4 = 11 then (impl_shape.j1 k x4 (x4 == 11)) else (impl_shape.j1 k x4 (x4 == 17)))))
def impl_shape.j1 : Nat → Int → Bool → Option (Int × Int)
 | 0, _, _ => none
 | k + 1, x4, x12 => if x12 = true then (some (2, 2)) else (if x4 = 16 then (some (3, 3)) else (if x4 = 12 then (some (0, 3)) else (if x4 = 20 then (some (0, 12)) else (some (0, 0)))))
end
def impl_shape.f (k : Nat) (a0 : Int) : Option (Int × Int) := if a0 = 8 then (impl_shape.j0 k a0 (a0 == 8)) else (if a0 = 13 then (impl_shape.j0 k a0 (a0 == 13)) else (if a0 = 14 then (impl_shape.j0 k a0 (a0 == 14)) else (if a0 = 15 then (impl_shape.j0 k a0 (a0 == 15)) else (if a0 = 18 then (impl_shape.j0 k a0 (a0 == 18)) else (impl_shape.j0 k a0 (a0 == 19))))))
theorem impl_shape.mono_l : ∀ k, (∀ y0 y1, LeO (impl_shape.j0 k y0 y1) (impl_shape.j0 (k + 1) y0 y1)) ∧ (∀ y0 y1, LeO (impl_shape.j1 k y0 y1) (impl_shape.j1 (k + 1) y0 y1))
 | 0 => ⟨fun _ _ r h => by simp [impl_shape.j0] at h, fun _ _ r h => by simp [impl_shape.j1] at h⟩
 | k + 1 => by
  obtain ⟨ih0, ih1⟩ := impl_shape.mono_l k
  refine ⟨?_, ?_⟩
  ·
   intro y0 y1
   unfold impl_shape.j0
   with_reducible repeat' first | exact ih0 _ _ | exact ih1 _ _ | exact LeO.refl _ | exact LeO.none _ | refine LeO.ite ?_ ?_ | refine LeO.bind ?_ (fun _ => ?_)
  ·
   intro y0 y1
   unfold impl_shape.j1
   with_reducible repeat' first | exact ih0 _ _ | exact ih1 _ _ | exact LeO.refl _ | exact LeO.none _ | refine LeO.ite ?_ ?_ | refine LeO.bind ?_ (fun _ => ?_)
theorem impl_shape.mono : ∀ a0 k, LeO (impl_shape.f k a0) (impl_shape.f (k + 1) a0) := by
 intro a0 k
 obtain ⟨ih0, ih1⟩ := impl_shape.mono_l k
 unfold impl_shape.f
 with_reducible repeat' first | exact ih0 _ _ | exact ih1 _ _ | exact LeO.refl _ | exact LeO.none _ | refine LeO.ite ?_ ?_ | refine LeO.bind ?_ (fun _ => ?_)
set_option maxHeartbeats 8000000 in
set_option maxRecDepth 100000 in
theorem impl_shape.calls (k : Nat) (a0 : Int) (r1 : Int) (r2 : Int) (w : World) (h : impl_shape.f k a0 = some (r1, r2)) :
  Calls Tryd.prog 46 #[.int .i64 a0] w fun e w' => e = .returned (.tuple #[.int .i64 r1, .int .i64 r2]) ∧ Drawn0 w w' := by
 have H : (if a0 = 8 then (impl_shape.j0 k a0 (a0 == 8)) else (if a0 = 13 then (impl_shape.j0 k a0 (a0 == 13)) else (if a0 = 14 then (impl_shape.j0 k a0 (a0 == 14)) else (if a0 = 15 then (impl_shape.j0 k a0 (a0 == 15)) else (if a0 = 18 then (impl_shape.j0 k a0 (a0 == 18)) else (impl_shape.j0 k a0 (a0 == 19))))))) = some (r1, r2) := h
 clear h
 have HC2 := As.mk H
 clear H
 go_enter Tryd.func46, Tryd.ntmps46
 go_upto_if 5 with (fail)
 go_cut [5] (fun v5 wc => ∃ (kq : Nat) (x5_1 : Bool), v5 = .bool x5_1 ∧ As (impl_shape.j0 kq a0 x5_1 = some (r1, r2)) ∧ As (kq ≤ k) ∧ Drawn0 w wc)
 case first =>
  have H := HC2.out
  clear HC2
  by_cases c3 : a0 = 8
  ·
   rw [if_pos c3] at H
   have c3b0 : (a0 == 8) = true := beq_iff_eq.mpr c3
   have c3b1 : (a0 != 8) = false := bne_eq_false_iff_eq.mpr c3
   clear c3
   (first | rw [c3b0] | (simp only [i64_w, i32_w]; rw [c3b0]) | skip)
   have H' := As.mk H
   clear H
   go_wp2
   go_meet
   case rel => exact ⟨_, ((a0 == 8)), (by first | rfl | (simp; done) | (simp [*]; done)), H', ⟨by first | omega | exact Nat.le_refl _⟩, by repeat (first | exact Drawn0.refl _ | apply Drawn0.step)⟩
  rw [if_neg c3] at H
  have c3b0 : (a0 == 8) = false := beq_eq_false_iff_ne.mpr c3
  have c3b1 : (a0 != 8) = true := bne_iff_ne.mpr c3
  (first | rw [c3b0] | (simp only [i64_w, i32_w]; rw [c3b0]) | skip)
  by_cases c4 : a0 = 13
  ·
   rw [if_pos c4] at H
   have c4b0 : (a0 == 13) = true := beq_iff_eq.mpr c4
   have c4b1 : (a0 != 13) = false := bne_eq_false_iff_eq.mpr c4
   clear c4
   have H' := As.mk H
   clear H
   go_wp2
   go_meet
   case rel => exact ⟨_, ((a0 == 13)), (by first | rfl | (simp; done) | (simp [*]; done)), H', ⟨by first | omega | exact Nat.le_refl _⟩, by repeat (first | exact Drawn0.refl _ | apply Drawn0.step)⟩
  rw [if_neg c4] at H
  have c4b0 : (a0 == 13) = false := beq_eq_false_iff_ne.mpr c4
  have c4b1 : (a0 != 13) = true := bne_iff_ne.mpr c4
  by_cases c5 : a0 = 14
  ·
   rw [if_pos c5] at H
   have c5b0 : (a0 == 14) = true := beq_iff_eq.mpr c5
   have c5b1 : (a0 != 14) = false := bne_eq_false_iff_eq.mpr c5
   clear c5
   have H' := As.mk H
   clear H
   go_wp2
   go_meet
   case rel => exact ⟨_, ((a0 == 14)), (by first | rfl | (simp; done) | (simp [*]; done)), H', ⟨by first | omega | exact Nat.le_refl _⟩, by repeat (first | exact Drawn0.refl _ | apply Drawn0.step)⟩
  rw [if_neg c5] at H
  have c5b0 : (a0 == 14) = false := beq_eq_false_iff_ne.mpr c5
  have c5b1 : (a0 != 14) = true := bne_iff_ne.mpr c5
  by_cases c6 : a0 = 15
  ·
   rw [if_pos c6] at H
   have c6b0 : (a0 == 15) = true := beq_iff_eq.mpr c6
   have c6b1 : (a0 != 15) = false := bne_eq_false_iff_eq.mpr c6
   clear c6
   have H' := As.mk H
   clear H
   go_wp2
   go_meet
   case rel => exact ⟨_, ((a0 == 15)), (by first | rfl | (simp; done) | (simp [*]; done)), H', ⟨by first | omega | exact Nat.le_refl _⟩, by repeat (first | exact Drawn0.refl _ | apply Drawn0.step)⟩
  rw [if_neg c6] at H
  have c6b0 : (a0 == 15) = false := beq_eq_false_iff_ne.mpr c6
  have c6b1 : (a0 != 15) = true := bne_iff_ne.mpr c6
  by_cases c7 : a0 = 18
  rotate_left
  ·
   rw [if_neg c7] at H
   have c7b0 : (a0 == 18) = false := beq_eq_false_iff_ne.mpr c7
   have c7b1 : (a0 != 18) = true := bne_iff_ne.mpr c7
   have H' := As.mk H
   clear H
   go_wp2
   go_meet
   case rel => exact ⟨_, ((a0 == 19)), (by first | rfl | (simp; done) | (simp [*]; done)), H', ⟨by first | omega | exact Nat.le_refl _⟩, by repeat (first | exact Drawn0.refl _ | apply Drawn0.step)⟩
  rw [if_pos c7] at H
  have c7b0 : (a0 == 18) = true := beq_iff_eq.mpr c7
  have c7b1 : (a0 != 18) = false := bne_eq_false_iff_eq.mpr c7
  clear c7
  have H' := As.mk H
  clear H
  go_wp2
  go_meet
  case rel => exact ⟨_, ((a0 == 18)), (by first | rfl | (simp; done) | (simp [*]; done)), H', ⟨by first | omega | exact Nat.le_refl _⟩, by repeat (first | exact Drawn0.refl _ | apply Drawn0.step)⟩
 case rest =>
  clear HC2
  obtain ⟨kq, x5_1, rfl, HA, HJ1, ⟨mc1, rfl⟩⟩ := hcut
  cases kq with
  | zero => exact absurd HA.out (by simp [impl_shape.j0])
  | succ kj1 =>
   have H := HA.out
   clear HA
   simp only [impl_shape.j0] at H
   by_cases c8 : x5_1 = true
   ·
    subst c8
    rw [if_pos rfl] at H
    simp only [Option.some.injEq, Prod.mk.injEq] at H
    obtain ⟨rfl, rfl⟩ := H
    go_wp2
    go_ret2
    exact ⟨by first | rfl | (simp; done) | (simp [*]; done), by repeat (first | exact Drawn0.refl _ | apply Drawn0.step)⟩
   replace c8 := Bool.eq_false_iff.mpr c8
   subst c8
   rw [if_neg (show ¬ (false = true) by decide)] at H
   have HC9 := As.mk H
   clear H
   go_upto_if 12 with (fail)
   go_cut [12] (fun v12 wc => ∃ (kq : Nat) (x12_8 : Bool), v12 = .bool x12_8 ∧ As (impl_shape.j1 kq a0 x12_8 = some (r1, r2)) ∧ As (kq ≤ kj1) ∧ Drawn0 w wc)
   case first =>
    have H := HC9.out
    clear HC9
    by_cases c10 : a0 = 9
    ·
     rw [if_pos c10] at H
     have c10b0 : (a0 == 9) = true := beq_iff_eq.mpr c10
     have c10b1 : (a0 != 9) = false := bne_eq_false_iff_eq.mpr c10
     clear c10
     (first | rw [c10b0] | (simp only [i64_w, i32_w]; rw [c10b0]) | skip)
     have H' := As.mk H
     clear H
     go_wp2
     go_meet
     case rel => exact ⟨_, ((a0 == 9)), (by first | rfl | (simp; done) | (simp [*]; done)), H', ⟨by have := HJ1.out; first | omega | exact Nat.le_refl _⟩, by repeat (first | exact Drawn0.refl _ | apply Drawn0.step)⟩
    rw [if_neg c10] at H
    have c10b0 : (a0 == 9) = false := beq_eq_false_iff_ne.mpr c10
    have c10b1 : (a0 != 9) = true := bne_iff_ne.mpr c10
    (first | rw [c10b0] | (simp only [i64_w, i32_w]; rw [c10b0]) | skip)
    by_cases c11 : a0 = 10
    ·
     rw [if_pos c11] at H
     have c11b0 : (a0 == 10) = true := beq_iff_eq.mpr c11
     have c11b1 : (a0 != 10) = false := bne_eq_false_iff_eq.mpr c11
     clear c11
     have H' := As.mk H
     clear H
     go_wp2
     go_meet
     case rel => exact ⟨_, ((a0 == 10)), (by first | rfl | (simp; done) | (simp [*]; done)), H', ⟨by have := HJ1.out; first | omega | exact Nat.le_refl _⟩, by repeat (first | exact Drawn0.refl _ | apply Drawn0.step)⟩
    rw [if_neg c11] at H
    have c11b0 : (a0 == 10) = false := beq_eq_false_iff_ne.mpr c11
    have c11b1 : (a0 != 10) = true := bne_iff_ne.mpr c11
    by_cases c12 : a0 = 11
    rotate_left
    ·
     rw [if_neg c12] at H
     have c12b0 : (a0 == 11) = false := beq_eq_false_iff_ne.mpr c12
     have c12b1 : (a0 != 11) = true := bne_iff_ne.mpr c12
     have H' := As.mk H
     clear H
     go_wp2
     go_meet
     case rel => exact ⟨_, ((a0 == 17)), (by first | rfl | (simp; done) | (simp [*]; done)), H', ⟨by have := HJ1.out; first | omega | exact Nat.le_refl _⟩, by repeat (first | exact Drawn0.refl _ | apply Drawn0.step)⟩
    rw [if_pos c12] at H
    have c12b0 : (a0 == 11) = true := beq_iff_eq.mpr c12
    have c12b1 : (a0 != 11) = false := bne_eq_false_iff_eq.mpr c12
    clear c12
    have H' := As.mk H
    clear H
    go_wp2
    go_meet
    case rel => exact ⟨_, ((a0 == 11)), (by first | rfl | (simp; done) | (simp [*]; done)), H', ⟨by have := HJ1.out; first | omega | exact Nat.le_refl _⟩, by repeat (first | exact Drawn0.refl _ | apply Drawn0.step)⟩
   case rest =>
    clear HC9
    (try clear c8)
    obtain ⟨kq, x12_8, rfl, HA, HJ8, ⟨mc8, rfl⟩⟩ := hcut
    cases kq with
    | zero => exact absurd HA.out (by simp [impl_shape.j1])
    | succ kj8 =>
     have H := HA.out
     clear HA
     simp only [impl_shape.j1] at H
     by_cases c13 : x12_8 = true
     ·
      subst c13
      rw [if_pos rfl] at H
      simp only [Option.some.injEq, Prod.mk.injEq] at H
      obtain ⟨rfl, rfl⟩ := H
      go_wp2
      go_ret2
      exact ⟨by first | rfl | (simp; done) | (simp [*]; done), by repeat (first | exact Drawn0.refl _ | apply Drawn0.step)⟩
     replace c13 := Bool.eq_false_iff.mpr c13
     subst c13
     rw [if_neg (show ¬ (false = true) by decide)] at H
     by_cases c14 : a0 = 16
     ·
      rw [if_pos c14] at H
      have c14b0 : (a0 == 16) = true := beq_iff_eq.mpr c14
      have c14b1 : (a0 != 16) = false := bne_eq_false_iff_eq.mpr c14
      clear c14
      simp only [Option.some.injEq, Prod.mk.injEq] at H
      obtain ⟨rfl, rfl⟩ := H
      go_wp2
      go_ret2
      exact ⟨by first | rfl | (simp; done) | (simp [*]; done), by repeat (first | exact Drawn0.refl _ | apply Drawn0.step)⟩
     rw [if_neg c14] at H
     have c14b0 : (a0 == 16) = false := beq_eq_false_iff_ne.mpr c14
     have c14b1 : (a0 != 16) = true := bne_iff_ne.mpr c14
     by_cases c15 : a0 = 12
     ·
      rw [if_pos c15] at H
      have c15b0 : (a0 == 12) = true := beq_iff_eq.mpr c15
      have c15b1 : (a0 != 12) = false := bne_eq_false_iff_eq.mpr c15
      clear c15
      simp only [Option.some.injEq, Prod.mk.injEq] at H
      obtain ⟨rfl, rfl⟩ := H
      go_wp2
      go_ret2
      exact ⟨by first | rfl | (simp; done) | (simp [*]; done), by repeat (first | exact Drawn0.refl _ | apply Drawn0.step)⟩
     rw [if_neg c15] at H
     have c15b0 : (a0 == 12) = false := beq_eq_false_iff_ne.mpr c15
     have c15b1 : (a0 != 12) = true := bne_iff_ne.mpr c15
     by_cases c16 : a0 = 20
     rotate_left
     ·
      rw [if_neg c16] at H
      have c16b0 : (a0 == 20) = false := beq_eq_false_iff_ne.mpr c16
      have c16b1 : (a0 != 20) = true := bne_iff_ne.mpr c16
      simp only [Option.some.injEq, Prod.mk.injEq] at H
      obtain ⟨rfl, rfl⟩ := H
      go_wp2
      go_ret2
      exact ⟨by first | rfl | (simp; done) | (simp [*]; done), by repeat (first | exact Drawn0.refl _ | apply Drawn0.step)⟩

     rw [if_pos c16] at H
     have c16b0 : (a0 == 20) = true := beq_iff_eq.mpr c16
     have c16b1 : (a0 != 20) = false := bne_eq_false_iff_eq.mpr c16
     clear c16
     simp only [Option.some.injEq, Prod.mk.injEq] at H
     obtain ⟨rfl, rfl⟩ := H
     go_wp2
     go_ret2
     exact ⟨by first | rfl | (simp; done) | (simp [*]; done), by repeat (first | exact Drawn0.refl _ | apply Drawn0.step)⟩
/-! ### impl_hasInt: function 47 -/
def impl_hasInt.l0 : Nat → Int → List Int → Int → Int → Option (Bool)
 | 0, _, _, _, _ => none
 | k + 1, x1, x7, x8, x9 => if x9 < x8 then (if 0 ≤ x9 then (if x9 < (x7.length : Int) then (if (rd x7 x9) = x1 then (some true) else (impl_hasInt.l0 k x1 x7 x8 (wrap64 (x9 + 1)))) else (none)) else (none)) else (some false)
def impl_hasInt.f (k : Nat) (l0 : List Int) (a1 : Int) : Option (Bool) := impl_hasInt.l0 k a1 l0 (l0.length : Int) 0
theorem impl_hasInt.mono_l : ∀ k, (∀ y0 y1 y2 y3, LeO (impl_hasInt.l0 k y0 y1 y2 y3) (impl_hasInt.l0 (k + 1) y0 y1 y2 y3))
 | 0 => fun _ _ _ _ r h => by simp [impl_hasInt.l0] at h
 | k + 1 => by
  have ih0 := impl_hasInt.mono_l k
  ·
   intro y0 y1 y2 y3
   unfold impl_hasInt.l0
   with_reducible repeat' first | exact ih0 _ _ _ _ | exact LeO.refl _ | exact LeO.none _ | refine LeO.ite ?_ ?_ | refine LeO.bind ?_ (fun _ => ?_)
theorem impl_hasInt.mono : ∀ a0 a1 k, LeO (impl_hasInt.f k a0 a1) (impl_hasInt.f (k + 1) a0 a1) := by
 intro a0 a1 k
 have ih0 := impl_hasInt.mono_l k
 unfold impl_hasInt.f
 with_reducible repeat' first | exact ih0 _ _ _ _ | exact LeO.refl _ | exact LeO.none _ | refine LeO.ite ?_ ?_ | refine LeO.bind ?_ (fun _ => ?_)
set_option maxHeartbeats 8000000 in
set_option maxRecDepth 100000 in
theorem impl_hasInt.calls (k : Nat) (A0 : Option Addr) (c0 : Nat) (l0 : List Int) (a1 : Int) (r : Bool) (w : World) (hr0 : Kd.C (Kd.int .i64) w A0 l0.length l0) (hc0 : l0.length ≤ c0) (h : impl_hasInt.f k l0 a1 = some r) :
  Calls Tryd.prog 47 #[.slice A0 l0.length c0, .int .i64 a1] w fun e w' => e = .returned (.bool r) ∧ Drawn0 w w' := by
 have HR0 := As.mk hr0
 have HC0 := As.mk hc0
 clear hr0 hc0
 have H : (impl_hasInt.l0 k a1 l0 (l0.length : Int) 0) = some r := h
 clear h
 have H' := As.mk H
 clear H
 go_enter Tryd.func47, Tryd.ntmps47
 go_wp2
 go_loopg [9] k (fun kq v9 w' => ∃ (x9_1 : Int), v9 = .int .i64 x9_1 ∧ As (impl_hasInt.l0 kq a1 l0 (l0.length : Int) x9_1 = some r) ∧ As (kq ≤ k) ∧ Drawn0 w w')
 case atStart => exact ⟨(0), (by first | rfl | (simp; done) | (simp [*]; done)), H', ⟨Nat.le_refl _⟩, by repeat (first | exact Drawn0.refl _ | apply Drawn0.step)⟩
 case round =>
  clear H'
  obtain ⟨x9_1, rfl, HA, HK1, ⟨m1, rfl⟩⟩ := hrel
  cases gk with
  | zero => exact absurd HA.out (by simp [impl_hasInt.l0])
  | succ k1 =>
   have H := HA.out
   clear HA
   simp only [impl_hasInt.l0] at H
   by_cases c3 : x9_1 < (l0.length : Int)
   rotate_left
   ·
    rw [if_neg c3] at H
    have c3b0 : decide (x9_1 < (l0.length : Int)) = false := decide_eq_false c3
    clear c3
    obtain rfl := Option.some.inj H
    go_wp2
    go_ret
    exact ⟨by first | rfl | (simp; done) | (simp [*]; done), by repeat (first | exact Drawn0.refl _ | apply Drawn0.step)⟩

   rw [if_pos c3] at H
   have c3b0 : decide (x9_1 < (l0.length : Int)) = true := decide_eq_true c3
   clear c3
   by_cases c4 : 0 ≤ x9_1
   rotate_left
   ·
    rw [if_neg c4] at H
    exact absurd H (by simp)
   rw [if_pos c4] at H
   have c4b0 : decide (0 ≤ x9_1) = true := decide_eq_true c4
   clear c4
   by_cases c5 : x9_1 < (l0.length : Int)
   rotate_left
   ·
    rw [if_neg c5] at H
    exact absurd H (by simp)
   rw [if_pos c5] at H
   have c5b0 : decide (x9_1 < (l0.length : Int)) = true := decide_eq_true c5
   clear c5
   by_cases c6 : (rd l0 x9_1) = a1
   ·
    rw [if_pos c6] at H
    have c6b0 : ((rd l0 x9_1) == a1) = true := beq_iff_eq.mpr c6
    have c6b1 : ((rd l0 x9_1) != a1) = false := bne_eq_false_iff_eq.mpr c6
    clear c6
    obtain rfl := Option.some.inj H
    have p277 : 0 ≤ (x9_1 : Int) := of_decide_eq_true (by first | (with_reducible assumption) | assumption)
    have q277 : x9_1 < (l0.length : Int) := of_decide_eq_true (by first | (with_reducible assumption) | assumption)
    obtain ⟨ad277, e277, hx277_0⟩ := Kd.at_int HR0.out x9_1 p277 q277
    cases e277
    replace p277 := eq_true p277
    replace q277 := eq_true q277
    go_wp2
    go_ret
    exact ⟨by first | rfl | (simp; done) | (simp [*]; done), by repeat (first | exact Drawn0.refl _ | apply Drawn0.step)⟩
   rw [if_neg c6] at H
   have c6b0 : ((rd l0 x9_1) == a1) = false := beq_eq_false_iff_ne.mpr c6
   have c6b1 : ((rd l0 x9_1) != a1) = true := bne_iff_ne.mpr c6
   have H' := As.mk H
   clear H
   have p277 : 0 ≤ (x9_1 : Int) := of_decide_eq_true (by first | (with_reducible assumption) | assumption)
   have q277 : x9_1 < (l0.length : Int) := of_decide_eq_true (by first | (with_reducible assumption) | assumption)
   obtain ⟨ad277, e277, hx277_0⟩ := Kd.at_int HR0.out x9_1 p277 q277
   cases e277
   replace p277 := eq_true p277
   replace q277 := eq_true q277
   go_wp2
   go_roundg k1
   case measure => have := HK1.out; omega
   case rel => exact ⟨(wrap64 (x9_1 + 1)), (by first | rfl | (simp; done) | (simp [*]; done)), H', ⟨by have := HK1.out; omega⟩, by repeat (first | exact Drawn0.refl _ | apply Drawn0.step)⟩
end Go.Proofs.YtmdpggibcjkfoaaDoor.PFnExactSameProgram
