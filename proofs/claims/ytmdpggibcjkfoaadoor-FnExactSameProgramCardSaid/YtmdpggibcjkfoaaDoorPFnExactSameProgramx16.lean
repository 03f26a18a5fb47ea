/- Written by a program of this session (a turned copy of the kit's print): a contract for each Go function. No condition beside those in each statement. -/
import Derived.Test.YtmdpggibcjkfoaaDoorPFnExactSameProgramx0
import Derived.Test.YtmdpggibcjkfoaaDoorPFnExactSameProgramx15
namespace Go.Proofs.YtmdpggibcjkfoaaDoor.PFnExactSameProgram
open Go.RowKit Go.Proofs.YtmdpggibcjkfoaaDoor.Given Go.Proofs.YtmdpggibcjkfoaaDoorW.PrintWords Go.Proofs.YtmdpggibcjkfoaaDoorW.PrintLast Go.Proofs.YtmdpggibcjkfoaaDoorW.PrintMore
attribute [local go_sem] max2_int min2_int max_two min_two max_three min_three max_four min_four   -- for this text's walks alone
set_option linter.unusedVariables false
set_option linter.unusedSimpArgs false

/-! ### impl_SameProgram: function 35 -/
def impl_SameProgram.l0 : Nat → Int → Int → List (S64) → List (S93) → List (S64) → List (S93) → Option (Bool)
 | 0, _, _, _, _, _, _ => none
 | k + 1, x15, x16, x349000, x349001, x350000, x350001 => if x16 < x15 then (if 0 ≤ x16 then (if x16 < (x349001.length : Int) then (if x16 < (x350001.length : Int) then ((impl_sameFns.f k x349000 x349001 ((rd_T93 x349001 x16).f0) ((rd_T93 x349001 x16).f1) ((rd_T93 x349001 x16).f2) ((rd_T93 x349001 x16).f3) ((rd_T93 x349001 x16).f4) x350000 x350001 ((rd_T93 x350001 x16).f0) ((rd_T93 x350001 x16).f1) ((rd_T93 x350001 x16).f2) ((rd_T93 x350001 x16).f3) ((rd_T93 x350001 x16).f4)).bind fun t352 => (if t352 = true then (impl_SameProgram.l0 k x15 (wrap64 (x16 + 1)) x349000 x349001 x350000 x350001) else (some false))) else (none)) else (none)) else (none)) else (some true)
def impl_SameProgram.f (k : Nat) (l0_0 : List (S64)) (l0_1 : List (S93)) (l1_0 : List (S64)) (l1_1 : List (S93)) : Option (Bool) := if (l0_1.length : Int) = (l1_1.length : Int) then (impl_SameProgram.l0 k (l0_1.length : Int) 0 l0_0 l0_1 l1_0 l1_1) else (some false)
theorem impl_SameProgram.mono_l : ∀ k, (∀ y0 y1 y2 y3 y4 y5, LeO (impl_SameProgram.l0 k y0 y1 y2 y3 y4 y5) (impl_SameProgram.l0 (k + 1) y0 y1 y2 y3 y4 y5))
 | 0 => fun _ _ _ _ _ _ r h => by simp [impl_SameProgram.l0] at h
 | k + 1 => by
  have ih0 := impl_SameProgram.mono_l k
  ·
   intro y0 y1 y2 y3 y4 y5
   unfold impl_SameProgram.l0
   with_reducible repeat' first | exact ih0 _ _ _ _ _ _ | exact impl_sameFns.mono _ _ _ _ _ _ _ _ _ _ _ _ _ _ _ | exact LeO.refl _ | exact LeO.none _ | refine LeO.ite ?_ ?_ | refine LeO.bind ?_ (fun _ => ?_)
theorem impl_SameProgram.mono : ∀ a0 a1 a2 a3 k, LeO (impl_SameProgram.f k a0 a1 a2 a3) (impl_SameProgram.f (k + 1) a0 a1 a2 a3) := by
 intro a0 a1 a2 a3 k
 have ih0 := impl_SameProgram.mono_l k
 unfold impl_SameProgram.f
 with_reducible repeat' first | exact ih0 _ _ _ _ _ _ | exact impl_sameFns.mono _ _ _ _ _ _ _ _ _ _ _ _ _ _ _ | exact LeO.refl _ | exact LeO.none _ | refine LeO.ite ?_ ?_ | refine LeO.bind ?_ (fun _ => ?_)
def impl_SameProgram.T6 : Bool × List (List Nat × List Nat) := (true, [([], []), ([], []), ([1], [1]), ([], []), ([2, 3], [2, 3]), ([4], [4]), ([], []), ([], []), ([7], [7]), ([], []), ([8, 9], [8, 9]), ([10], [10]), ([0, 5, 6, 11], [0, 5, 6, 11]), ([12], [12])])
def impl_SameProgram.B6 : List Nat := [0, 0, 2, 0, 14, 30, 0, 0, 128, 0, 896, 1920, 4095, 8191]
theorem impl_SameProgram.tab6 : rtab .any (opsOf Tryd.f35 6) = impl_SameProgram.T6 := by kernel_rfl
theorem impl_SameProgram.bits6 : waitsOk impl_SameProgram.T6.2 impl_SameProgram.B6 = true := by kernel_rfl
set_option maxHeartbeats 8000000 in
set_option maxRecDepth 100000 in
theorem impl_SameProgram.calls (k : Nat) (A0_0 : Option Addr) (c0_0 : Nat) (l0_0 : List (S64)) (A0_1 : Option Addr) (c0_1 : Nat) (l0_1 : List (S93)) (A1_0 : Option Addr) (c1_0 : Nat) (l1_0 : List (S64)) (A1_1 : Option Addr) (c1_1 : Nat) (l1_1 : List (S93)) (r : Bool) (w : World) (hr0_0 : Kd.C k64 w A0_0 l0_0.length l0_0) (hc0_0 : l0_0.length ≤ c0_0) (hr0_1 : Kd.C k93 w A0_1 l0_1.length l0_1) (hc0_1 : l0_1.length ≤ c0_1) (hr1_0 : Kd.C k64 w A1_0 l1_0.length l1_0) (hc1_0 : l1_0.length ≤ c1_0) (hr1_1 : Kd.C k93 w A1_1 l1_1.length l1_1) (hc1_1 : l1_1.length ≤ c1_1) (h : impl_SameProgram.f k l0_0 l0_1 l1_0 l1_1 = some r) :
  Calls Tryd.prog 35 #[.agg #[.slice A0_0 l0_0.length c0_0, .slice A0_1 l0_1.length c0_1], .agg #[.slice A1_0 l1_0.length c1_0, .slice A1_1 l1_1.length c1_1]] w fun e w' => e = .returned (.bool r) ∧ Below w.heap.size w w' := by
 have hu52 := Tryd.underlying52
 have hu93 := Tryd.underlying93
 have HR0_0 := As.mk hr0_0
 have HC0_0 := As.mk hc0_0
 clear hr0_0 hc0_0
 have HR0_1 := As.mk hr0_1
 have HC0_1 := As.mk hc0_1
 clear hr0_1 hc0_1
 have HR1_0 := As.mk hr1_0
 have HC1_0 := As.mk hc1_0
 clear hr1_0 hc1_0
 have HR1_1 := As.mk hr1_1
 have HC1_1 := As.mk hc1_1
 clear hr1_1 hc1_1
 have HB := As.mk (Below.refl w.heap.size w)
 have H : (if (l0_1.length : Int) = (l1_1.length : Int) then (impl_SameProgram.l0 k (l0_1.length : Int) 0 l0_0 l0_1 l1_0 l1_1) else (some false)) = some r := h
 clear h
 by_cases c3 : (l0_1.length : Int) = (l1_1.length : Int)
 rotate_left
 ·
  rw [if_neg c3] at H
  have c3b0 : ((l0_1.length : Int) == (l1_1.length : Int)) = false := beq_eq_false_iff_ne.mpr c3
  have c3b1 : ((l0_1.length : Int) != (l1_1.length : Int)) = true := bne_iff_ne.mpr c3
  have c3b2 : (l0_1.length == l1_1.length) = false := by first | simpa using c3 | (simp at c3 ⊢; omega)
  obtain rfl := Option.some.inj H
  go_enter Tryd.func35, Tryd.ntmps35
  go_wp2_with (first | ((with_reducible refine gate_dst (N := 2) rfl ?_); refine box_event ?hg (N := 2) ?hd (cs := #[.slice A0_0 l0_0.length c0_0, .slice A0_1 l0_1.length c0_1]) (t := 52) ?hr ?_; (case hd => rfl); (case hg => rfl); (case hr => first | (go_simp; done) | (go_simp; rfl)); intro gb348 hg w19 hbox hb; have BK348 := As.mk (hbox); have GW348 := As.mk (gs w hg); have GE348 := As.mk (gs w hg); replace HB := As.mk (below_step (be w) hb); clear hb hbox hg) | ((with_reducible refine gate_dst (N := 3) rfl ?_); refine box_event ?hg (N := 3) ?hd (cs := #[.slice A1_0 l1_0.length c1_0, .slice A1_1 l1_1.length c1_1]) (t := 52) ?hr ?_; (case hd => rfl); (case hg => rfl); (case hr => first | (go_simp; done) | (go_simp; rfl)); intro gb349 hg w20 hbox hb; have BK349 := As.mk (hbox); have GW349 := As.mk (gs w hg); have GE349 := As.mk (gs w hg); replace HB := As.mk (below_step (be w) hb); have NB348_349 := As.mk (nl hg (bx BK348.out)); have NB349_348 := As.mk (ng hg (bx BK348.out)); replace BK348 := As.mk (blk_below (bx BK348.out) hb); clear hb hbox hg; have hnb21 := NB348_349.out; have hnc21 := NB349_348.out; obtain ⟨hcz22_0, hcz22_1, hfz22_0, hfz22_1⟩ := cl2 BK348.out; obtain ⟨hcz23_0, hcz23_1, hfz23_0, hfz23_1⟩ := cl2 BK349.out))
  go_ret
  exact ⟨by first | rfl | (simp [errW_none, errW_some] <;> rfl) | (simp [*, errW_none, errW_some] <;> rfl), be w⟩

 rw [if_pos c3] at H
 have c3b0 : ((l0_1.length : Int) == (l1_1.length : Int)) = true := beq_iff_eq.mpr c3
 have c3b1 : ((l0_1.length : Int) != (l1_1.length : Int)) = false := bne_eq_false_iff_eq.mpr c3
 have c3b2 : (l0_1.length == l1_1.length) = true := by first | simpa using c3 | (simp at c3 ⊢; omega)
 clear c3
 have H' := As.mk H
 clear H
 go_enter Tryd.func35, Tryd.ntmps35
 go_wp2_with (first | ((with_reducible refine gate_dst (N := 2) rfl ?_); refine box_event ?hg (N := 2) ?hd (cs := #[.slice A0_0 l0_0.length c0_0, .slice A0_1 l0_1.length c0_1]) (t := 52) ?hr ?_; (case hd => rfl); (case hg => rfl); (case hr => first | (go_simp; done) | (go_simp; rfl)); intro gb348 hg w4 hbox hb; have BK348 := As.mk (hbox); have GW348 := As.mk (gs w hg); have GE348 := As.mk (gs w hg); replace HB := As.mk (below_step (be w) hb); clear hb hbox hg) | ((with_reducible refine gate_dst (N := 3) rfl ?_); refine box_event ?hg (N := 3) ?hd (cs := #[.slice A1_0 l1_0.length c1_0, .slice A1_1 l1_1.length c1_1]) (t := 52) ?hr ?_; (case hd => rfl); (case hg => rfl); (case hr => first | (go_simp; done) | (go_simp; rfl)); intro gb349 hg w5 hbox hb; have BK349 := As.mk (hbox); have GW349 := As.mk (gs w hg); have GE349 := As.mk (gs w hg); replace HB := As.mk (below_step (be w) hb); have NB348_349 := As.mk (nl hg (bx BK348.out)); have NB349_348 := As.mk (ng hg (bx BK348.out)); replace BK348 := As.mk (blk_below (bx BK348.out) hb); clear hb hbox hg; have hnb6 := NB348_349.out; have hnc6 := NB349_348.out; obtain ⟨hcz7_0, hcz7_1, hfz7_0, hfz7_1⟩ := cl2 BK348.out; obtain ⟨hcz8_0, hcz8_1, hfz8_0, hfz8_1⟩ := cl2 BK349.out))
 go_loopg [16] k (fun kq v16 w' => ∃ (x16_1 : Int), v16 = .int .i64 x16_1 ∧ As (impl_SameProgram.l0 kq (l0_1.length : Int) x16_1 l0_0 l0_1 l1_0 l1_1 = some r) ∧ As (kq ≤ k) ∧ As (w'.heap[gb348]? = some (.cells #[(.slice A0_0 l0_0.length c0_0), (.slice A0_1 l0_1.length c0_1)] 52 (0, 0))) ∧ As (w'.heap[gb349]? = some (.cells #[(.slice A1_0 l1_0.length c1_0), (.slice A1_1 l1_1.length c1_1)] 52 (0, 0))) ∧ As (Below w.heap.size w w'))
 case atStart => exact ⟨(0), (by first | rfl | (simp; done) | (simp [*]; done)), H', ⟨Nat.le_refl _⟩, ⟨bx BK348.out⟩, ⟨bx BK349.out⟩, ⟨be w⟩⟩
 case round =>
  clear H'
  (try clear c3); (try clear c3b0); (try clear c3b1); (try clear c3b2); (try clear hcz7_0); (try clear hcz7_1); (try clear hcz8_0); (try clear hcz8_1); (try clear hfz7_0); (try clear hfz7_1); (try clear hfz8_0); (try clear hfz8_1)
  obtain ⟨x16_1, rfl, HA, HK1, BK348, BK349, HB⟩ := hrel
  cases gk with
  | zero => exact absurd HA.out (by simp [impl_SameProgram.l0])
  | succ k1 =>
   have H := HA.out
   clear HA
   simp only [impl_SameProgram.l0] at H
   by_cases c9 : x16_1 < (l0_1.length : Int)
   rotate_left
   ·
    rw [if_neg c9] at H
    have c9b0 : decide (x16_1 < (l0_1.length : Int)) = false := decide_eq_false c9
    clear c9
    obtain rfl := Option.some.inj H
    go_wp2
    go_ret
    exact ⟨by first | rfl | (simp [errW_none, errW_some] <;> rfl) | (simp [*, errW_none, errW_some] <;> rfl), be w⟩
   rw [if_pos c9] at H
   have c9b0 : decide (x16_1 < (l0_1.length : Int)) = true := decide_eq_true c9
   clear c9
   by_cases c10 : 0 ≤ x16_1
   rotate_left
   ·
    rw [if_neg c10] at H
    exact absurd H (by simp)
   rw [if_pos c10] at H
   have c10b0 : decide (0 ≤ x16_1) = true := decide_eq_true c10
   clear c10
   by_cases c11 : x16_1 < (l0_1.length : Int)
   rotate_left
   ·
    rw [if_neg c11] at H
    exact absurd H (by simp)
   rw [if_pos c11] at H
   have c11b0 : decide (x16_1 < (l0_1.length : Int)) = true := decide_eq_true c11
   clear c11
   by_cases c12 : x16_1 < (l1_1.length : Int)
   rotate_left
   ·
    rw [if_neg c12] at H
    exact absurd H (by simp)
   rw [if_pos c12] at H
   have c12b0 : decide (x16_1 < (l1_1.length : Int)) = true := decide_eq_true c12
   clear c12
   obtain ⟨t352, A130, H⟩ := Option.bind_eq_some_iff.mp H
   try dsimp only at H
   have A13 := As.mk A130
   clear A130
   by_cases c14 : t352 = true
   rotate_left
   ·
    replace c14 := Bool.eq_false_iff.mpr c14
    subst c14
    rw [if_neg (show ¬ (false = true) by decide)] at H
    obtain rfl := Option.some.inj H
    try go_wp2
    replace BK348 := As.mk (blk_drew BK348.out)
    replace BK349 := As.mk (blk_drew BK349.out)
    replace HB := As.mk (below_drew1 HB.out)
    have p350 : 0 ≤ (x16_1 : Int) := of_decide_eq_true (by first | (with_reducible assumption) | assumption)
    have q350 : x16_1 < (l0_1.length : Int) := of_decide_eq_true (by first | (with_reducible assumption) | assumption)
    obtain ⟨ad350, A350_1, c350_1, e350, hx350_0, hx350_1, hx350_2, hx350_3, hx350_4, hl350_1, hi350_1⟩ := at_T93 HR0_1.out x16_1 p350 q350
    have hw350_4 := hx350_4
    have hw350_3 := hx350_3
    have hw350_2 := hx350_2
    have hw350_1 := hx350_1
    have hw350_0 := hx350_0
    cases e350
    replace hx350_0 := ce HB.out hx350_0
    replace hx350_1 := ce HB.out hx350_1
    replace hx350_2 := ce HB.out hx350_2
    replace hx350_3 := ce HB.out hx350_3
    replace hx350_4 := ce HB.out hx350_4
    have HR350_1 := As.mk hi350_1
    have HC350_1 := As.mk hl350_1
    clear hi350_1 hl350_1
    replace p350 := eq_true p350
    replace q350 := eq_true q350
    have p351 : 0 ≤ (x16_1 : Int) := of_decide_eq_true (by first | (with_reducible assumption) | assumption)
    have q351 : x16_1 < (l1_1.length : Int) := of_decide_eq_true (by first | (with_reducible assumption) | assumption)
    obtain ⟨ad351, A351_1, c351_1, e351, hx351_0, hx351_1, hx351_2, hx351_3, hx351_4, hl351_1, hi351_1⟩ := at_T93 HR1_1.out x16_1 p351 q351
    have hw351_4 := hx351_4
    have hw351_3 := hx351_3
    have hw351_2 := hx351_2
    have hw351_1 := hx351_1
    have hw351_0 := hx351_0
    cases e351
    replace hx351_0 := ce HB.out hx351_0
    replace hx351_1 := ce HB.out hx351_1
    replace hx351_2 := ce HB.out hx351_2
    replace hx351_3 := ce HB.out hx351_3
    replace hx351_4 := ce HB.out hx351_4
    have HR351_1 := As.mk hi351_1
    have HC351_1 := As.mk hl351_1
    clear hi351_1 hl351_1
    replace p351 := eq_true p351
    replace q351 := eq_true q351
    refine start_ (n := 14) (S := fun w' => w'.cell? ⟨gb348, 0, none⟩ = some (.slice A0_0 l0_0.length c0_0) ∧ w'.cell? ⟨gb348, 1, none⟩ = some (.slice (some ad350) l0_1.length c0_1) ∧ w'.cell? ⟨gb349, 0, none⟩ = some (.slice A1_0 l1_0.length c1_0) ∧ w'.cell? ⟨gb349, 1, none⟩ = some (.slice (some ad351) l1_1.length c1_1) ∧ w'.cell? (ad350.add ((x16_1).toNat * 5)) = some (.string ((rd_T93 l0_1 x16_1).f0)) ∧ w'.cell? ⟨(ad350.add ((x16_1).toNat * 5)).block, (ad350.add ((x16_1).toNat * 5)).off + 1, none⟩ = some (.slice A350_1 ((rd_T93 l0_1 x16_1).f1).length c350_1) ∧ w'.cell? ⟨(ad350.add ((x16_1).toNat * 5)).block, (ad350.add ((x16_1).toNat * 5)).off + 2, none⟩ = some (.int .i64 ((rd_T93 l0_1 x16_1).f2)) ∧ w'.cell? ⟨(ad350.add ((x16_1).toNat * 5)).block, (ad350.add ((x16_1).toNat * 5)).off + 3, none⟩ = some (.int .i64 ((rd_T93 l0_1 x16_1).f3)) ∧ w'.cell? ⟨(ad350.add ((x16_1).toNat * 5)).block, (ad350.add ((x16_1).toNat * 5)).off + 4, none⟩ = some (.int .i64 ((rd_T93 l0_1 x16_1).f4)) ∧ w'.cell? (ad351.add ((x16_1).toNat * 5)) = some (.string ((rd_T93 l1_1 x16_1).f0)) ∧ w'.cell? ⟨(ad351.add ((x16_1).toNat * 5)).block, (ad351.add ((x16_1).toNat * 5)).off + 1, none⟩ = some (.slice A351_1 ((rd_T93 l1_1 x16_1).f1).length c351_1) ∧ w'.cell? ⟨(ad351.add ((x16_1).toNat * 5)).block, (ad351.add ((x16_1).toNat * 5)).off + 2, none⟩ = some (.int .i64 ((rd_T93 l1_1 x16_1).f2)) ∧ w'.cell? ⟨(ad351.add ((x16_1).toNat * 5)).block, (ad351.add ((x16_1).toNat * 5)).off + 3, none⟩ = some (.int .i64 ((rd_T93 l1_1 x16_1).f3)) ∧ w'.cell? ⟨(ad351.add ((x16_1).toNat * 5)).block, (ad351.add ((x16_1).toNat * 5)).off + 4, none⟩ = some (.int .i64 ((rd_T93 l1_1 x16_1).f4))) (ds := []) #[O, O, O, O, O, O, O, O, O, O, O, O, O, O] (by kernel_rfl) rfl rfl ⟨(blk_cell BK348.out 0).trans rfl, (blk_cell BK348.out 1).trans rfl, (blk_cell BK349.out 0).trans rfl, (blk_cell BK349.out 1).trans rfl, (ce HB.out hw350_0 :), (ce HB.out hw350_1 :), (ce HB.out hw350_2 :), (ce HB.out hw350_3 :), (ce HB.out hw350_4 :), (ce HB.out hw351_0 :), (ce HB.out hw351_1 :), (ce HB.out hw351_2 :), (ce HB.out hw351_3 :), (ce HB.out hw351_4 :)⟩ (fun hHeld => ?_); refine with_tabW impl_SameProgram.tab6 impl_SameProgram.bits6 (fun HT_ HW_ => ?_)
    generalize wr.drew = w17 at BK348 BK349 HB HR350_1 HR351_1 hx350_0 hx350_1 hx350_2 hx350_3 hx350_4 hx351_0 hx351_1 hx351_2 hx351_3 hx351_4 hHeld ⊢
    refine pure_ (i := 1) (N := some 20) (v := ?_) (a' := ?_) #[O, I, O, O, O, O, O, O, O, O, O, O, O, O] rfl rfl (any_of HT_.out (by kernel_rfl)) (fun _ _ _ h => h) (Or.inl ⟨by rfl, ?_⟩) ?_ ?_
    rotate_left
    ·
     intro w'
     go_simp
     with_reducible rfl
    rotate_left
    ·
     simp only [pk, i64_w, i32_w]
     rfl
    refine pure_ (i := 3) (N := some 22) (v := ?_) (a' := ?_) #[O, I, O, I, O, O, O, O, O, O, O, O, O, O] rfl rfl (any_of HT_.out (by kernel_rfl)) (fun _ _ _ h => h) (Or.inl ⟨by rfl, ?_⟩) ?_ ?_
    rotate_left
    ·
     intro w'
     go_simp
     with_reducible rfl
    rotate_left
    ·
     simp only [pk, i64_w, i32_w]
     rfl
    refine pure_ (i := 7) (N := some 26) (v := ?_) (a' := ?_) #[O, I, O, I, O, O, O, I, O, O, O, O, O, O] rfl rfl (any_of HT_.out (by kernel_rfl)) (fun _ _ _ h => h) (Or.inl ⟨by rfl, ?_⟩) ?_ ?_
    rotate_left
    ·
     intro w'
     go_simp
     with_reducible rfl
    rotate_left
    ·
     simp only [pk, i64_w, i32_w]
     rfl
    refine pure_ (i := 9) (N := some 28) (v := ?_) (a' := ?_) #[O, I, O, I, O, O, O, I, O, I, O, O, O, O] rfl rfl (any_of HT_.out (by kernel_rfl)) (fun _ _ _ h => h) (Or.inl ⟨by rfl, ?_⟩) ?_ ?_
    rotate_left
    ·
     intro w'
     go_simp
     with_reducible rfl
    rotate_left
    ·
     simp only [pk, i64_w, i32_w]
     rfl
    refine take_ (i := 0) (N := some 19) (v := ?_) (a' := ?_) #[I, I, O, I, O, O, O, I, O, I, O, O, O, O] rfl rfl (take_ofW HT_.out HW_.out (by kernel_rfl)) (fun _ _ _ h => h) (Or.inl ⟨by rfl, ?_⟩) hHeld ?_ ?_
    rotate_left
    ·
     rintro w' ⟨s0, s1, s2, s3, s4, s5, s6, s7, s8, s9, s10, s11, s12, s13⟩
     go_simp
     with_reducible rfl
    rotate_left
    ·
     simp only [pk, i64_w, i32_w]
     rfl
    refine take_ (i := 2) (N := some 21) (v := ?_) (a' := ?_) #[I, I, I, I, O, O, O, I, O, I, O, O, O, O] rfl rfl (take_ofW HT_.out HW_.out (by kernel_rfl)) (fun _ _ _ h => h) (Or.inl ⟨by rfl, ?_⟩) hHeld ?_ ?_
    rotate_left
    ·
     rintro w' ⟨s0, s1, s2, s3, s4, s5, s6, s7, s8, s9, s10, s11, s12, s13⟩
     go_simp
     with_reducible rfl
    rotate_left
    ·
     simp only [pk, i64_w, i32_w]
     rfl
    refine pure_ (i := 4) (N := some 23) (v := ?_) (a' := ?_) #[I, I, I, I, I, O, O, I, O, I, O, O, O, O] rfl rfl (any_of HT_.out (by kernel_rfl)) (fun _ _ _ h => h) (Or.inl ⟨by rfl, ?_⟩) ?_ ?_
    rotate_left
    ·
     intro w'
     go_simp
     with_reducible rfl
    rotate_left
    ·
     simp only [pk, i64_w, i32_w]
     rfl
    refine take_ (i := 5) (N := some 24) (v := ?_) (a' := ?_) #[I, I, I, I, I, I, O, I, O, I, O, O, O, O] rfl rfl (take_ofW HT_.out HW_.out (by kernel_rfl)) (fun _ _ _ h => h) (Or.inl ⟨by rfl, ?_⟩) hHeld ?_ ?_
    rotate_left
    ·
     rintro w' ⟨s0, s1, s2, s3, s4, s5, s6, s7, s8, s9, s10, s11, s12, s13⟩
     go_simp
     with_reducible rfl
    rotate_left
    ·
     simp only [pk, i64_w, i32_w]
     rfl
    refine take_ (i := 6) (N := some 25) (v := ?_) (a' := ?_) #[I, I, I, I, I, I, I, I, O, I, O, O, O, O] rfl rfl (take_ofW HT_.out HW_.out (by kernel_rfl)) (fun _ _ _ h => h) (Or.inl ⟨by rfl, ?_⟩) hHeld ?_ ?_
    rotate_left
    ·
     rintro w' ⟨s0, s1, s2, s3, s4, s5, s6, s7, s8, s9, s10, s11, s12, s13⟩
     go_simp
     with_reducible rfl
    rotate_left
    ·
     simp only [pk, i64_w, i32_w]
     rfl
    refine take_ (i := 8) (N := some 27) (v := ?_) (a' := ?_) #[I, I, I, I, I, I, I, I, I, I, O, O, O, O] rfl rfl (take_ofW HT_.out HW_.out (by kernel_rfl)) (fun _ _ _ h => h) (Or.inl ⟨by rfl, ?_⟩) hHeld ?_ ?_
    rotate_left
    ·
     rintro w' ⟨s0, s1, s2, s3, s4, s5, s6, s7, s8, s9, s10, s11, s12, s13⟩
     go_simp
     with_reducible rfl
    rotate_left
    ·
     simp only [pk, i64_w, i32_w]
     rfl
    refine pure_ (i := 10) (N := some 29) (v := ?_) (a' := ?_) #[I, I, I, I, I, I, I, I, I, I, I, O, O, O] rfl rfl (any_of HT_.out (by kernel_rfl)) (fun _ _ _ h => h) (Or.inl ⟨by rfl, ?_⟩) ?_ ?_
    rotate_left
    ·
     intro w'
     go_simp
     with_reducible rfl
    rotate_left
    ·
     simp only [pk, i64_w, i32_w]
     rfl
    refine take_ (i := 11) (N := some 30) (v := ?_) (a' := ?_) #[I, I, I, I, I, I, I, I, I, I, I, I, O, O] rfl rfl (take_ofW HT_.out HW_.out (by kernel_rfl)) (fun _ _ _ h => h) (Or.inl ⟨by rfl, ?_⟩) hHeld ?_ ?_
    rotate_left
    ·
     rintro w' ⟨s0, s1, s2, s3, s4, s5, s6, s7, s8, s9, s10, s11, s12, s13⟩
     go_simp
     with_reducible rfl
    rotate_left
    ·
     simp only [pk, i64_w, i32_w]
     rfl
    refine one_ (i := 12) (N := some 31) #[I, I, I, I, I, I, I, I, I, I, I, I, I, O] rfl rfl (one_of HT_.out (by kernel_rfl)) (by decide) (fun K hK => ?_)
    refine goes_ Tryd.func72 (by kernel_rfl) rfl #[.agg #[.slice A0_0 l0_0.length c0_0, .slice (some ad350) l0_1.length c0_1], .agg #[.string ((rd_T93 l0_1 x16_1).f0), .slice A350_1 ((rd_T93 l0_1 x16_1).f1).length c350_1, .int .i64 ((rd_T93 l0_1 x16_1).f2), .int .i64 ((rd_T93 l0_1 x16_1).f3), .int .i64 ((rd_T93 l0_1 x16_1).f4)], .agg #[.slice A1_0 l1_0.length c1_0, .slice (some ad351) l1_1.length c1_1], .agg #[.string ((rd_T93 l1_1 x16_1).f0), .slice A351_1 ((rd_T93 l1_1 x16_1).f1).length c351_1, .int .i64 ((rd_T93 l1_1 x16_1).f2), .int .i64 ((rd_T93 l1_1 x16_1).f3), .int .i64 ((rd_T93 l1_1 x16_1).f4)]] (by rfl) rfl rfl (by (try simp only [lm]); first | done | rfl | (simp only [List.length_drop, List.length_take]; rfl)) ?_
    with_reducible refine (impl_sameFns.calls k1 _ _ l0_0 _ _ l0_1 ((rd_T93 l0_1 x16_1).f0) _ _ ((rd_T93 l0_1 x16_1).f1) ((rd_T93 l0_1 x16_1).f2) ((rd_T93 l0_1 x16_1).f3) ((rd_T93 l0_1 x16_1).f4) _ _ l1_0 _ _ l1_1 ((rd_T93 l1_1 x16_1).f0) _ _ ((rd_T93 l1_1 x16_1).f1) ((rd_T93 l1_1 x16_1).f2) ((rd_T93 l1_1 x16_1).f3) ((rd_T93 l1_1 x16_1).f4) false _ ?side1 ?side2 ?side3 ?side4 ?side5 ?side6 ?side7 ?side8 ?side9 ?side10 ?side11 ?side12 A13.out).mono ?_
    (case side1 => exact Kd.C_below HR0_0.out (be w))
    (case side2 => exact HC0_0.out)
    (case side3 => exact Kd.C_below HR0_1.out (be w))
    (case side4 => exact HC0_1.out)
    (case side5 => exact Kd.C_below HR350_1.out (be w))
    (case side6 => exact HC350_1.out)
    (case side7 => exact Kd.C_below HR1_0.out (be w))
    (case side8 => exact HC1_0.out)
    (case side9 => exact Kd.C_below HR1_1.out (be w))
    (case side10 => exact HC1_1.out)
    (case side11 => exact Kd.C_below HR351_1.out (be w))
    (case side12 => exact HC351_1.out)
    rintro e w18 ⟨rfl, hb⟩
    refine ⟨_, rfl, ?_⟩
    replace BK348 := As.mk (blk_below (bx BK348.out) hb)
    replace BK349 := As.mk (blk_below (bx BK349.out) hb)
    replace HB := As.mk (below_step (be w) hb)
    (try clear hb)
    (try clear hb2)
    (try clear hk)
    (try clear hi)
    refine hK.out _ _ ⟨(blk_cell BK348.out 0).trans rfl, (blk_cell BK348.out 1).trans rfl, (blk_cell BK349.out 0).trans rfl, (blk_cell BK349.out 1).trans rfl, (ce HB.out hw350_0 :), (ce HB.out hw350_1 :), (ce HB.out hw350_2 :), (ce HB.out hw350_3 :), (ce HB.out hw350_4 :), (ce HB.out hw351_0 :), (ce HB.out hw351_1 :), (ce HB.out hw351_2 :), (ce HB.out hw351_3 :), (ce HB.out hw351_4 :)⟩ (fun hHeld => ?_)
    clear hK K
    refine norm_ (a' := ?_) ?_ ?_
    rotate_left
    ·
     show Act.put _ (some 31) _ = _
     simp only [pk, i64_w, i32_w]
     rfl
    refine pure_ (i := 13) (N := some 32) (v := ?_) (a' := ?_) #[I, I, I, I, I, I, I, I, I, I, I, I, I, I] rfl rfl (any_of HT_.out (by kernel_rfl)) (fun _ _ _ h => h) (Or.inl ⟨by rfl, ?_⟩) ?_ ?_
    rotate_left
    ·
     intro w'
     go_simp
     with_reducible rfl
    rotate_left
    ·
     simp only [pk, i64_w, i32_w]
     rfl
    refine done_ (done_of HT_.out (by kernel_rfl)) ?_
    try go_wp2
    go_ret
    exact ⟨by first | rfl | (simp [errW_none, errW_some] <;> rfl) | (simp [*, errW_none, errW_some] <;> rfl), be w⟩
   subst c14
   rw [if_pos rfl] at H
   have H' := As.mk H
   clear H
   try go_wp2
   replace BK348 := As.mk (blk_drew BK348.out)
   replace BK349 := As.mk (blk_drew BK349.out)
   replace HB := As.mk (below_drew1 HB.out)
   have p350 : 0 ≤ (x16_1 : Int) := of_decide_eq_true (by first | (with_reducible assumption) | assumption)
   have q350 : x16_1 < (l0_1.length : Int) := of_decide_eq_true (by first | (with_reducible assumption) | assumption)
   obtain ⟨ad350, A350_1, c350_1, e350, hx350_0, hx350_1, hx350_2, hx350_3, hx350_4, hl350_1, hi350_1⟩ := at_T93 HR0_1.out x16_1 p350 q350
   have hw350_4 := hx350_4
   have hw350_3 := hx350_3
   have hw350_2 := hx350_2
   have hw350_1 := hx350_1
   have hw350_0 := hx350_0
   cases e350
   replace hx350_0 := ce HB.out hx350_0
   replace hx350_1 := ce HB.out hx350_1
   replace hx350_2 := ce HB.out hx350_2
   replace hx350_3 := ce HB.out hx350_3
   replace hx350_4 := ce HB.out hx350_4
   have HR350_1 := As.mk hi350_1
   have HC350_1 := As.mk hl350_1
   clear hi350_1 hl350_1
   replace p350 := eq_true p350
   replace q350 := eq_true q350
   have p351 : 0 ≤ (x16_1 : Int) := of_decide_eq_true (by first | (with_reducible assumption) | assumption)
   have q351 : x16_1 < (l1_1.length : Int) := of_decide_eq_true (by first | (with_reducible assumption) | assumption)
   obtain ⟨ad351, A351_1, c351_1, e351, hx351_0, hx351_1, hx351_2, hx351_3, hx351_4, hl351_1, hi351_1⟩ := at_T93 HR1_1.out x16_1 p351 q351
   have hw351_4 := hx351_4
   have hw351_3 := hx351_3
   have hw351_2 := hx351_2
   have hw351_1 := hx351_1
   have hw351_0 := hx351_0
   cases e351
   replace hx351_0 := ce HB.out hx351_0
   replace hx351_1 := ce HB.out hx351_1
   replace hx351_2 := ce HB.out hx351_2
   replace hx351_3 := ce HB.out hx351_3
   replace hx351_4 := ce HB.out hx351_4
   have HR351_1 := As.mk hi351_1
   have HC351_1 := As.mk hl351_1
   clear hi351_1 hl351_1
   replace p351 := eq_true p351
   replace q351 := eq_true q351
   refine start_ (n := 14) (S := fun w' => w'.cell? ⟨gb348, 0, none⟩ = some (.slice A0_0 l0_0.length c0_0) ∧ w'.cell? ⟨gb348, 1, none⟩ = some (.slice (some ad350) l0_1.length c0_1) ∧ w'.cell? ⟨gb349, 0, none⟩ = some (.slice A1_0 l1_0.length c1_0) ∧ w'.cell? ⟨gb349, 1, none⟩ = some (.slice (some ad351) l1_1.length c1_1) ∧ w'.cell? (ad350.add ((x16_1).toNat * 5)) = some (.string ((rd_T93 l0_1 x16_1).f0)) ∧ w'.cell? ⟨(ad350.add ((x16_1).toNat * 5)).block, (ad350.add ((x16_1).toNat * 5)).off + 1, none⟩ = some (.slice A350_1 ((rd_T93 l0_1 x16_1).f1).length c350_1) ∧ w'.cell? ⟨(ad350.add ((x16_1).toNat * 5)).block, (ad350.add ((x16_1).toNat * 5)).off + 2, none⟩ = some (.int .i64 ((rd_T93 l0_1 x16_1).f2)) ∧ w'.cell? ⟨(ad350.add ((x16_1).toNat * 5)).block, (ad350.add ((x16_1).toNat * 5)).off + 3, none⟩ = some (.int .i64 ((rd_T93 l0_1 x16_1).f3)) ∧ w'.cell? ⟨(ad350.add ((x16_1).toNat * 5)).block, (ad350.add ((x16_1).toNat * 5)).off + 4, none⟩ = some (.int .i64 ((rd_T93 l0_1 x16_1).f4)) ∧ w'.cell? (ad351.add ((x16_1).toNat * 5)) = some (.string ((rd_T93 l1_1 x16_1).f0)) ∧ w'.cell? ⟨(ad351.add ((x16_1).toNat * 5)).block, (ad351.add ((x16_1).toNat * 5)).off + 1, none⟩ = some (.slice A351_1 ((rd_T93 l1_1 x16_1).f1).length c351_1) ∧ w'.cell? ⟨(ad351.add ((x16_1).toNat * 5)).block, (ad351.add ((x16_1).toNat * 5)).off + 2, none⟩ = some (.int .i64 ((rd_T93 l1_1 x16_1).f2)) ∧ w'.cell? ⟨(ad351.add ((x16_1).toNat * 5)).block, (ad351.add ((x16_1).toNat * 5)).off + 3, none⟩ = some (.int .i64 ((rd_T93 l1_1 x16_1).f3)) ∧ w'.cell? ⟨(ad351.add ((x16_1).toNat * 5)).block, (ad351.add ((x16_1).toNat * 5)).off + 4, none⟩ = some (.int .i64 ((rd_T93 l1_1 x16_1).f4))) (ds := []) #[O, O, O, O, O, O, O, O, O, O, O, O, O, O] (by kernel_rfl) rfl rfl ⟨(blk_cell BK348.out 0).trans rfl, (blk_cell BK348.out 1).trans rfl, (blk_cell BK349.out 0).trans rfl, (blk_cell BK349.out 1).trans rfl, (ce HB.out hw350_0 :), (ce HB.out hw350_1 :), (ce HB.out hw350_2 :), (ce HB.out hw350_3 :), (ce HB.out hw350_4 :), (ce HB.out hw351_0 :), (ce HB.out hw351_1 :), (ce HB.out hw351_2 :), (ce HB.out hw351_3 :), (ce HB.out hw351_4 :)⟩ (fun hHeld => ?_); refine with_tabW impl_SameProgram.tab6 impl_SameProgram.bits6 (fun HT_ HW_ => ?_)
   generalize wr.drew = w15 at BK348 BK349 HB HR350_1 HR351_1 hx350_0 hx350_1 hx350_2 hx350_3 hx350_4 hx351_0 hx351_1 hx351_2 hx351_3 hx351_4 hHeld ⊢
   refine pure_ (i := 1) (N := some 20) (v := ?_) (a' := ?_) #[O, I, O, O, O, O, O, O, O, O, O, O, O, O] rfl rfl (any_of HT_.out (by kernel_rfl)) (fun _ _ _ h => h) (Or.inl ⟨by rfl, ?_⟩) ?_ ?_
   rotate_left
   ·
    intro w'
    go_simp
    with_reducible rfl
   rotate_left
   ·
    simp only [pk, i64_w, i32_w]
    rfl
   refine pure_ (i := 3) (N := some 22) (v := ?_) (a' := ?_) #[O, I, O, I, O, O, O, O, O, O, O, O, O, O] rfl rfl (any_of HT_.out (by kernel_rfl)) (fun _ _ _ h => h) (Or.inl ⟨by rfl, ?_⟩) ?_ ?_
   rotate_left
   ·
    intro w'
    go_simp
    with_reducible rfl
   rotate_left
   ·
    simp only [pk, i64_w, i32_w]
    rfl
   refine pure_ (i := 7) (N := some 26) (v := ?_) (a' := ?_) #[O, I, O, I, O, O, O, I, O, O, O, O, O, O] rfl rfl (any_of HT_.out (by kernel_rfl)) (fun _ _ _ h => h) (Or.inl ⟨by rfl, ?_⟩) ?_ ?_
   rotate_left
   ·
    intro w'
    go_simp
    with_reducible rfl
   rotate_left
   ·
    simp only [pk, i64_w, i32_w]
    rfl
   refine pure_ (i := 9) (N := some 28) (v := ?_) (a' := ?_) #[O, I, O, I, O, O, O, I, O, I, O, O, O, O] rfl rfl (any_of HT_.out (by kernel_rfl)) (fun _ _ _ h => h) (Or.inl ⟨by rfl, ?_⟩) ?_ ?_
   rotate_left
   ·
    intro w'
    go_simp
    with_reducible rfl
   rotate_left
   ·
    simp only [pk, i64_w, i32_w]
    rfl
   refine take_ (i := 0) (N := some 19) (v := ?_) (a' := ?_) #[I, I, O, I, O, O, O, I, O, I, O, O, O, O] rfl rfl (take_ofW HT_.out HW_.out (by kernel_rfl)) (fun _ _ _ h => h) (Or.inl ⟨by rfl, ?_⟩) hHeld ?_ ?_
   rotate_left
   ·
    rintro w' ⟨s0, s1, s2, s3, s4, s5, s6, s7, s8, s9, s10, s11, s12, s13⟩
    go_simp
    with_reducible rfl
   rotate_left
   ·
    simp only [pk, i64_w, i32_w]
    rfl
   refine take_ (i := 2) (N := some 21) (v := ?_) (a' := ?_) #[I, I, I, I, O, O, O, I, O, I, O, O, O, O] rfl rfl (take_ofW HT_.out HW_.out (by kernel_rfl)) (fun _ _ _ h => h) (Or.inl ⟨by rfl, ?_⟩) hHeld ?_ ?_
   rotate_left
   ·
    rintro w' ⟨s0, s1, s2, s3, s4, s5, s6, s7, s8, s9, s10, s11, s12, s13⟩
    go_simp
    with_reducible rfl
   rotate_left
   ·
    simp only [pk, i64_w, i32_w]
    rfl
   refine pure_ (i := 4) (N := some 23) (v := ?_) (a' := ?_) #[I, I, I, I, I, O, O, I, O, I, O, O, O, O] rfl rfl (any_of HT_.out (by kernel_rfl)) (fun _ _ _ h => h) (Or.inl ⟨by rfl, ?_⟩) ?_ ?_
   rotate_left
   ·
    intro w'
    go_simp
    with_reducible rfl
   rotate_left
   ·
    simp only [pk, i64_w, i32_w]
    rfl
   refine take_ (i := 5) (N := some 24) (v := ?_) (a' := ?_) #[I, I, I, I, I, I, O, I, O, I, O, O, O, O] rfl rfl (take_ofW HT_.out HW_.out (by kernel_rfl)) (fun _ _ _ h => h) (Or.inl ⟨by rfl, ?_⟩) hHeld ?_ ?_
   rotate_left
   ·
    rintro w' ⟨s0, s1, s2, s3, s4, s5, s6, s7, s8, s9, s10, s11, s12, s13⟩
    go_simp
    with_reducible rfl
   rotate_left
   ·
    simp only [pk, i64_w, i32_w]
    rfl
   refine take_ (i := 6) (N := some 25) (v := ?_) (a' := ?_) #[I, I, I, I, I, I, I, I, O, I, O, O, O, O] rfl rfl (take_ofW HT_.out HW_.out (by kernel_rfl)) (fun _ _ _ h => h) (Or.inl ⟨by rfl, ?_⟩) hHeld ?_ ?_
   rotate_left
   ·
    rintro w' ⟨s0, s1, s2, s3, s4, s5, s6, s7, s8, s9, s10, s11, s12, s13⟩
    go_simp
    with_reducible rfl
   rotate_left
   ·
    simp only [pk, i64_w, i32_w]
    rfl
   refine take_ (i := 8) (N := some 27) (v := ?_) (a' := ?_) #[I, I, I, I, I, I, I, I, I, I, O, O, O, O] rfl rfl (take_ofW HT_.out HW_.out (by kernel_rfl)) (fun _ _ _ h => h) (Or.inl ⟨by rfl, ?_⟩) hHeld ?_ ?_
   rotate_left
   ·
    rintro w' ⟨s0, s1, s2, s3, s4, s5, s6, s7, s8, s9, s10, s11, s12, s13⟩
    go_simp
    with_reducible rfl
   rotate_left
   ·
    simp only [pk, i64_w, i32_w]
    rfl
   refine pure_ (i := 10) (N := some 29) (v := ?_) (a' := ?_) #[I, I, I, I, I, I, I, I, I, I, I, O, O, O] rfl rfl (any_of HT_.out (by kernel_rfl)) (fun _ _ _ h => h) (Or.inl ⟨by rfl, ?_⟩) ?_ ?_
   rotate_left
   ·
    intro w'
    go_simp
    with_reducible rfl
   rotate_left
   ·
    simp only [pk, i64_w, i32_w]
    rfl
   refine take_ (i := 11) (N := some 30) (v := ?_) (a' := ?_) #[I, I, I, I, I, I, I, I, I, I, I, I, O, O] rfl rfl (take_ofW HT_.out HW_.out (by kernel_rfl)) (fun _ _ _ h => h) (Or.inl ⟨by rfl, ?_⟩) hHeld ?_ ?_
   rotate_left
   ·
    rintro w' ⟨s0, s1, s2, s3, s4, s5, s6, s7, s8, s9, s10, s11, s12, s13⟩
    go_simp
    with_reducible rfl
   rotate_left
   ·
    simp only [pk, i64_w, i32_w]
    rfl
   refine one_ (i := 12) (N := some 31) #[I, I, I, I, I, I, I, I, I, I, I, I, I, O] rfl rfl (one_of HT_.out (by kernel_rfl)) (by decide) (fun K hK => ?_)
   refine goes_ Tryd.func72 (by kernel_rfl) rfl #[.agg #[.slice A0_0 l0_0.length c0_0, .slice (some ad350) l0_1.length c0_1], .agg #[.string ((rd_T93 l0_1 x16_1).f0), .slice A350_1 ((rd_T93 l0_1 x16_1).f1).length c350_1, .int .i64 ((rd_T93 l0_1 x16_1).f2), .int .i64 ((rd_T93 l0_1 x16_1).f3), .int .i64 ((rd_T93 l0_1 x16_1).f4)], .agg #[.slice A1_0 l1_0.length c1_0, .slice (some ad351) l1_1.length c1_1], .agg #[.string ((rd_T93 l1_1 x16_1).f0), .slice A351_1 ((rd_T93 l1_1 x16_1).f1).length c351_1, .int .i64 ((rd_T93 l1_1 x16_1).f2), .int .i64 ((rd_T93 l1_1 x16_1).f3), .int .i64 ((rd_T93 l1_1 x16_1).f4)]] (by rfl) rfl rfl (by (try simp only [lm]); first | done | rfl | (simp only [List.length_drop, List.length_take]; rfl)) ?_
   with_reducible refine (impl_sameFns.calls k1 _ _ l0_0 _ _ l0_1 ((rd_T93 l0_1 x16_1).f0) _ _ ((rd_T93 l0_1 x16_1).f1) ((rd_T93 l0_1 x16_1).f2) ((rd_T93 l0_1 x16_1).f3) ((rd_T93 l0_1 x16_1).f4) _ _ l1_0 _ _ l1_1 ((rd_T93 l1_1 x16_1).f0) _ _ ((rd_T93 l1_1 x16_1).f1) ((rd_T93 l1_1 x16_1).f2) ((rd_T93 l1_1 x16_1).f3) ((rd_T93 l1_1 x16_1).f4) true _ ?side1 ?side2 ?side3 ?side4 ?side5 ?side6 ?side7 ?side8 ?side9 ?side10 ?side11 ?side12 A13.out).mono ?_
   (case side1 => exact Kd.C_below HR0_0.out (be w))
   (case side2 => exact HC0_0.out)
   (case side3 => exact Kd.C_below HR0_1.out (be w))
   (case side4 => exact HC0_1.out)
   (case side5 => exact Kd.C_below HR350_1.out (be w))
   (case side6 => exact HC350_1.out)
   (case side7 => exact Kd.C_below HR1_0.out (be w))
   (case side8 => exact HC1_0.out)
   (case side9 => exact Kd.C_below HR1_1.out (be w))
   (case side10 => exact HC1_1.out)
   (case side11 => exact Kd.C_below HR351_1.out (be w))
   (case side12 => exact HC351_1.out)
   rintro e w16 ⟨rfl, hb⟩
   refine ⟨_, rfl, ?_⟩
   replace BK348 := As.mk (blk_below (bx BK348.out) hb)
   replace BK349 := As.mk (blk_below (bx BK349.out) hb)
   replace HB := As.mk (below_step (be w) hb)
   (try clear hb)
   (try clear hb2)
   (try clear hk)
   (try clear hi)
   refine hK.out _ _ ⟨(blk_cell BK348.out 0).trans rfl, (blk_cell BK348.out 1).trans rfl, (blk_cell BK349.out 0).trans rfl, (blk_cell BK349.out 1).trans rfl, (ce HB.out hw350_0 :), (ce HB.out hw350_1 :), (ce HB.out hw350_2 :), (ce HB.out hw350_3 :), (ce HB.out hw350_4 :), (ce HB.out hw351_0 :), (ce HB.out hw351_1 :), (ce HB.out hw351_2 :), (ce HB.out hw351_3 :), (ce HB.out hw351_4 :)⟩ (fun hHeld => ?_)
   clear hK K
   refine norm_ (a' := ?_) ?_ ?_
   rotate_left
   ·
    show Act.put _ (some 31) _ = _
    simp only [pk, i64_w, i32_w]
    rfl
   refine pure_ (i := 13) (N := some 32) (v := ?_) (a' := ?_) #[I, I, I, I, I, I, I, I, I, I, I, I, I, I] rfl rfl (any_of HT_.out (by kernel_rfl)) (fun _ _ _ h => h) (Or.inl ⟨by rfl, ?_⟩) ?_ ?_
   rotate_left
   ·
    intro w'
    go_simp
    with_reducible rfl
   rotate_left
   ·
    simp only [pk, i64_w, i32_w]
    rfl
   refine done_ (done_of HT_.out (by kernel_rfl)) ?_
   try go_wp2
   go_roundg k1
   case measure => have := HK1.out; omega
   case rel => exact ⟨(wrap64 (x16_1 + 1)), (by first | rfl | (simp; done) | (simp [*]; done)), H', ⟨by have := HK1.out; omega⟩, ⟨bx BK348.out⟩, ⟨bx BK349.out⟩, ⟨be w⟩⟩
end Go.Proofs.YtmdpggibcjkfoaaDoor.PFnExactSameProgram
