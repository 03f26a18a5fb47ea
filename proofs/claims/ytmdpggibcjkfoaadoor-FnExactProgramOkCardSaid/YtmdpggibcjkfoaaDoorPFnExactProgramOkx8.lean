/- Written by a program of this session (a turned copy of the kit's print): a contract for each Go function. No condition beside those in each statement. -/
import Derived.Test.YtmdpggibcjkfoaaDoorPFnExactProgramOkx0
import Derived.Test.YtmdpggibcjkfoaaDoorPFnExactProgramOkx4
import Derived.Test.YtmdpggibcjkfoaaDoorPFnExactProgramOkx5
import Derived.Test.YtmdpggibcjkfoaaDoorPFnExactProgramOkx7
namespace Go.Proofs.YtmdpggibcjkfoaaDoor.PFnExactProgramOk
open Go.RowKit Go.Proofs.YtmdpggibcjkfoaaDoor.Given Go.Proofs.YtmdpggibcjkfoaaDoorW.PrintWords Go.Proofs.YtmdpggibcjkfoaaDoorW.PrintLast Go.Proofs.YtmdpggibcjkfoaaDoorW.PrintMore
attribute [local go_sem] max2_int min2_int max_two min_two max_three min_three max_four min_four   -- for this text's walks alone
set_option linter.unusedVariables false
set_option linter.unusedSimpArgs false

/-! ### spec_l04Fn: function 74 -/
mutual
def spec_l04Fn.j0 : Nat → Bool → List (S64) → List (S93) → ByteArray → List (S95) → Int → Int → Int → Option (Bool)
 | 0, _, _, _, _, _, _, _, _ => none
 | k + 1, x35, x261000, x261001, x263000, x263001, x263002, x263003, x263004 => if x35 = true then (some false) else (spec_l04Fn.l0 k 0 x261000 x261001 x263000 x263001 x263002 x263003 x263004)
def spec_l04Fn.l0 : Nat → Int → List (S64) → List (S93) → ByteArray → List (S95) → Int → Int → Int → Option (Bool)
 | 0, _, _, _, _, _, _, _, _ => none
 | k + 1, x6, x261000, x261001, x263000, x263001, x263002, x263003, x263004 => if x6 < (x263001.length : Int) then (if 0 ≤ x6 then ((spec_NameOk.f k ((rd_T95 x263001 x6).f0)).bind fun t267 => (if t267 = true then ((spec_l01In.f ((rd_T95 x263001 x6).f1) 1 4).bind fun t269 => (if t269 = true then (spec_l04Fn.l0 k (wrap64 (x6 + 1)) x261000 x261001 x263000 x263001 x263002 x263003 x263004) else (some false))) else (some false))) else (none)) else ((spec_l01In.f x263003 0 (wrap64 ((x261000.length : Int) - 1))).bind fun t270 => (if t270 = true then (if 0 ≤ x263003 then (if x263003 < (x261000.length : Int) then (spec_l04Fn.j2 k (((rd_T64 x261000 x263003).f0) != 20) x261000 x261001 x263000 x263001 x263002 x263003 x263004) else (none)) else (none)) else (spec_l04Fn.j2 k true x261000 x261001 x263000 x263001 x263002 x263003 x263004)))
def spec_l04Fn.j2 : Nat → Bool → List (S64) → List (S93) → ByteArray → List (S95) → Int → Int → Int → Option (Bool)
 | 0, _, _, _, _, _, _, _, _ => none
 | k + 1, x78, x261000, x261001, x263000, x263001, x263002, x263003, x263004 => if x78 = true then (some false) else (if x263002 = 0 then (some (x263004 == (-1))) else ((spec_l01In.f x263004 0 (wrap64 ((x261000.length : Int) - 1))).bind fun t272 => (if t272 = true then (if 0 ≤ x263004 then (if x263004 < (x261000.length : Int) then ((spec_l04Value.f ((rd_T64 x261000 x263004).f0)).bind fun t274 => (some t274)) else (none)) else (none)) else (some false))))
end
def spec_l04Fn.f (k : Nat) (l0_0 : List (S64)) (l0_1 : List (S93)) (a1 : Int) : Option (Bool) := if 0 ≤ a1 then (if a1 < (l0_1.length : Int) then ((spec_NameOk.f k ((rd_T93 l0_1 a1).f0)).bind fun t263 => (if t263 = true then ((spec_FnAt.f k l0_0 l0_1 ((rd_T93 l0_1 a1).f0)).bind fun t264 => (if t264 = a1 then (if (((rd_T93 l0_1 a1).f1).length : Int) > 3 then (spec_l04Fn.j0 k true l0_0 l0_1 ((rd_T93 l0_1 a1).f0) ((rd_T93 l0_1 a1).f1) ((rd_T93 l0_1 a1).f2) ((rd_T93 l0_1 a1).f3) ((rd_T93 l0_1 a1).f4)) else ((spec_l01In.f ((rd_T93 l0_1 a1).f2) 0 2).bind fun t265 => (spec_l04Fn.j0 k (!t265) l0_0 l0_1 ((rd_T93 l0_1 a1).f0) ((rd_T93 l0_1 a1).f1) ((rd_T93 l0_1 a1).f2) ((rd_T93 l0_1 a1).f3) ((rd_T93 l0_1 a1).f4)))) else (spec_l04Fn.j0 k true l0_0 l0_1 ((rd_T93 l0_1 a1).f0) ((rd_T93 l0_1 a1).f1) ((rd_T93 l0_1 a1).f2) ((rd_T93 l0_1 a1).f3) ((rd_T93 l0_1 a1).f4)))) else (spec_l04Fn.j0 k true l0_0 l0_1 ((rd_T93 l0_1 a1).f0) ((rd_T93 l0_1 a1).f1) ((rd_T93 l0_1 a1).f2) ((rd_T93 l0_1 a1).f3) ((rd_T93 l0_1 a1).f4)))) else (none)) else (none)
theorem spec_l04Fn.mono_l : ∀ k, (∀ y0 y1 y2 y3 y4 y5 y6 y7, LeO (spec_l04Fn.j0 k y0 y1 y2 y3 y4 y5 y6 y7) (spec_l04Fn.j0 (k + 1) y0 y1 y2 y3 y4 y5 y6 y7)) ∧ (∀ y0 y1 y2 y3 y4 y5 y6 y7, LeO (spec_l04Fn.l0 k y0 y1 y2 y3 y4 y5 y6 y7) (spec_l04Fn.l0 (k + 1) y0 y1 y2 y3 y4 y5 y6 y7)) ∧ (∀ y0 y1 y2 y3 y4 y5 y6 y7, LeO (spec_l04Fn.j2 k y0 y1 y2 y3 y4 y5 y6 y7) (spec_l04Fn.j2 (k + 1) y0 y1 y2 y3 y4 y5 y6 y7))
 | 0 => ⟨fun _ _ _ _ _ _ _ _ r h => by simp [spec_l04Fn.j0] at h, fun _ _ _ _ _ _ _ _ r h => by simp [spec_l04Fn.l0] at h, fun _ _ _ _ _ _ _ _ r h => by simp [spec_l04Fn.j2] at h⟩
 | k + 1 => by
  obtain ⟨ih0, ih1, ih2⟩ := spec_l04Fn.mono_l k
  refine ⟨?_, ?_, ?_⟩
  ·
   intro y0 y1 y2 y3 y4 y5 y6 y7
   unfold spec_l04Fn.j0
   with_reducible repeat' first | exact ih0 _ _ _ _ _ _ _ _ | exact ih1 _ _ _ _ _ _ _ _ | exact ih2 _ _ _ _ _ _ _ _ | exact spec_FnAt.mono _ _ _ _ | exact spec_NameOk.mono _ _ | exact LeO.refl _ | exact LeO.none _ | refine LeO.ite ?_ ?_ | refine LeO.bind ?_ (fun _ => ?_)
  ·
   intro y0 y1 y2 y3 y4 y5 y6 y7
   unfold spec_l04Fn.l0
   with_reducible repeat' first | exact ih0 _ _ _ _ _ _ _ _ | exact ih1 _ _ _ _ _ _ _ _ | exact ih2 _ _ _ _ _ _ _ _ | exact spec_FnAt.mono _ _ _ _ | exact spec_NameOk.mono _ _ | exact LeO.refl _ | exact LeO.none _ | refine LeO.ite ?_ ?_ | refine LeO.bind ?_ (fun _ => ?_)
  ·
   intro y0 y1 y2 y3 y4 y5 y6 y7
   unfold spec_l04Fn.j2
   with_reducible repeat' first | exact ih0 _ _ _ _ _ _ _ _ | exact ih1 _ _ _ _ _ _ _ _ | exact ih2 _ _ _ _ _ _ _ _ | exact spec_FnAt.mono _ _ _ _ | exact spec_NameOk.mono _ _ | exact LeO.refl _ | exact LeO.none _ | refine LeO.ite ?_ ?_ | refine LeO.bind ?_ (fun _ => ?_)
theorem spec_l04Fn.mono : ∀ a0 a1 a2 k, LeO (spec_l04Fn.f k a0 a1 a2) (spec_l04Fn.f (k + 1) a0 a1 a2) := by
 intro a0 a1 a2 k
 obtain ⟨ih0, ih1, ih2⟩ := spec_l04Fn.mono_l k
 unfold spec_l04Fn.f
 with_reducible repeat' first | exact ih0 _ _ _ _ _ _ _ _ | exact ih1 _ _ _ _ _ _ _ _ | exact ih2 _ _ _ _ _ _ _ _ | exact spec_FnAt.mono _ _ _ _ | exact spec_NameOk.mono _ _ | exact LeO.refl _ | exact LeO.none _ | refine LeO.ite ?_ ?_ | refine LeO.bind ?_ (fun _ => ?_)
set_option maxHeartbeats 8000000 in
set_option maxRecDepth 100000 in
theorem spec_l04Fn.calls (k : Nat) (A0_0 : Option Addr) (c0_0 : Nat) (l0_0 : List (S64)) (A0_1 : Option Addr) (c0_1 : Nat) (l0_1 : List (S93)) (a1 : Int) (r : Bool) (w : World) (hr0_0 : Kd.C k64 w A0_0 l0_0.length l0_0) (hc0_0 : l0_0.length ≤ c0_0) (hr0_1 : Kd.C k93 w A0_1 l0_1.length l0_1) (hc0_1 : l0_1.length ≤ c0_1) (h : spec_l04Fn.f k l0_0 l0_1 a1 = some r) :
  Calls Tryd.prog 74 #[.agg #[.slice A0_0 l0_0.length c0_0, .slice A0_1 l0_1.length c0_1], .int .i64 a1] w fun e w' => e = .returned (.bool r) ∧ Below w.heap.size w w' := by
 have hu52 := Tryd.underlying52
 have hu93 := Tryd.underlying93
 have HR0_0 := As.mk hr0_0
 have HC0_0 := As.mk hc0_0
 clear hr0_0 hc0_0
 have HR0_1 := As.mk hr0_1
 have HC0_1 := As.mk hc0_1
 clear hr0_1 hc0_1
 have HB := As.mk (Below.refl w.heap.size w)
 have H : (if 0 ≤ a1 then (if a1 < (l0_1.length : Int) then ((spec_NameOk.f k ((rd_T93 l0_1 a1).f0)).bind fun t263 => (if t263 = true then ((spec_FnAt.f k l0_0 l0_1 ((rd_T93 l0_1 a1).f0)).bind fun t264 => (if t264 = a1 then (if (((rd_T93 l0_1 a1).f1).length : Int) > 3 then (spec_l04Fn.j0 k true l0_0 l0_1 ((rd_T93 l0_1 a1).f0) ((rd_T93 l0_1 a1).f1) ((rd_T93 l0_1 a1).f2) ((rd_T93 l0_1 a1).f3) ((rd_T93 l0_1 a1).f4)) else ((spec_l01In.f ((rd_T93 l0_1 a1).f2) 0 2).bind fun t265 => (spec_l04Fn.j0 k (!t265) l0_0 l0_1 ((rd_T93 l0_1 a1).f0) ((rd_T93 l0_1 a1).f1) ((rd_T93 l0_1 a1).f2) ((rd_T93 l0_1 a1).f3) ((rd_T93 l0_1 a1).f4)))) else (spec_l04Fn.j0 k true l0_0 l0_1 ((rd_T93 l0_1 a1).f0) ((rd_T93 l0_1 a1).f1) ((rd_T93 l0_1 a1).f2) ((rd_T93 l0_1 a1).f3) ((rd_T93 l0_1 a1).f4)))) else (spec_l04Fn.j0 k true l0_0 l0_1 ((rd_T93 l0_1 a1).f0) ((rd_T93 l0_1 a1).f1) ((rd_T93 l0_1 a1).f2) ((rd_T93 l0_1 a1).f3) ((rd_T93 l0_1 a1).f4)))) else (none)) else (none)) = some r := h
 clear h
 by_cases c3 : 0 ≤ a1
 rotate_left
 ·
  rw [if_neg c3] at H
  exact absurd H (by simp)

 rw [if_pos c3] at H
 have c3b0 : decide (0 ≤ a1) = true := decide_eq_true c3
 clear c3
 by_cases c4 : a1 < (l0_1.length : Int)
 rotate_left
 ·
  rw [if_neg c4] at H
  exact absurd H (by simp)
 rw [if_pos c4] at H
 have c4b0 : decide (a1 < (l0_1.length : Int)) = true := decide_eq_true c4
 clear c4
 have HC5 := As.mk H
 clear H
 go_enter Tryd.func74, Tryd.ntmps74
 go_upto_region 2 with (first | ((with_reducible refine gate_dst (N := 2) rfl ?_); (try (refine gate_guard (by rfl) ?_; dsimp only)); refine box_event ?hg (N := 2) ?hd (cs := #[.slice A0_0 l0_0.length c0_0, .slice A0_1 l0_1.length c0_1]) (t := 52) ?hr ?_; (case hd => rfl); (case hg => rfl); (case hr => first | (go_simp; done) | (go_simp; rfl)); intro gb260 hg w6 hbox hb; have BK260 := As.mk (hbox); have GW260 := As.mk (gs w hg); have GE260 := As.mk (gs w hg); replace HB := As.mk (below_step (be w) hb); clear hb hbox hg; obtain ⟨hcz7_0, hcz7_1, hfz7_0, hfz7_1⟩ := cl2 BK260.out; have p261 : 0 ≤ (a1 : Int) := of_decide_eq_true (by first | (with_reducible assumption) | assumption); have q261 : a1 < (l0_1.length : Int) := of_decide_eq_true (by first | (with_reducible assumption) | assumption); obtain ⟨ad261, A261_1, c261_1, e261, hx261_0, hx261_1, hx261_2, hx261_3, hx261_4, hl261_1, hi261_1⟩ := at_T93 HR0_1.out a1 p261 q261; cases e261; replace hx261_0 := ce HB.out hx261_0; replace hx261_1 := ce HB.out hx261_1; replace hx261_2 := ce HB.out hx261_2; replace hx261_3 := ce HB.out hx261_3; replace hx261_4 := ce HB.out hx261_4; have HR261_1 := As.mk hi261_1; have HC261_1 := As.mk hl261_1; clear hi261_1 hl261_1; replace p261 := eq_true p261; replace q261 := eq_true q261) | ((with_reducible refine gate_dst (N := 5) rfl ?_); (try (refine gate_guard (by rfl) ?_; dsimp only)); refine box_event ?hg (N := 5) ?hd (cs := #[.string (⟨#[]⟩ : ByteArray), .slice none 0 0, .int .i64 0, .int .i64 0, .int .i64 0]) (t := 93) ?hr ?_; (case hd => rfl); (case hg => rfl); (case hr => first | (go_simp; done) | (go_simp; rfl)); intro gb262 hg w8 hbox hb; have BK262 := As.mk (hbox); have GW262 := As.mk (gs w hg); have GE262 := As.mk (gs w hg); replace HB := As.mk (below_step (be w) hb); have NB260_262 := As.mk (nl hg (bx BK260.out)); have NB262_260 := As.mk (ng hg (bx BK260.out)); replace BK260 := As.mk (blk_below (bx BK260.out) hb); clear hb hbox hg; have hnb9 := NB262_260.out; have hnc9 := NB260_262.out; obtain ⟨hcz10_0, hcz10_1, hcz10_2, hcz10_3, hcz10_4, hfz10_0, hfz10_1, hfz10_2, hfz10_3, hfz10_4⟩ := cl5 BK262.out))
 (try simp only [pk])
 go_cut [35] (fun v35 wc => ∃ (kq : Nat) (x35_4 : Bool), v35 = .bool x35_4 ∧ As (spec_l04Fn.j0 kq x35_4 l0_0 l0_1 ((rd_T93 l0_1 a1).f0) ((rd_T93 l0_1 a1).f1) ((rd_T93 l0_1 a1).f2) ((rd_T93 l0_1 a1).f3) ((rd_T93 l0_1 a1).f4) = some r) ∧ As (kq ≤ k) ∧ As (wc.heap[gb260]? = some (.cells #[(.slice A0_0 l0_0.length c0_0), (.slice (some ad261) l0_1.length c0_1)] 52 (0, 0))) ∧ As (wc.heap[gb262]? = some (.cells #[.string ((rd_T93 l0_1 a1).f0), (.slice A261_1 ((rd_T93 l0_1 a1).f1).length c261_1), .int .i64 ((rd_T93 l0_1 a1).f2), .int .i64 ((rd_T93 l0_1 a1).f3), .int .i64 ((rd_T93 l0_1 a1).f4)] 93 (0, 0))) ∧ As (Below w.heap.size w wc))
 case first =>
  have H := HC5.out
  clear HC5
  obtain ⟨t263, A110, H⟩ := Option.bind_eq_some_iff.mp H
  try dsimp only at H
  have A11 := As.mk A110
  clear A110
  by_cases c12 : t263 = true
  rotate_left
  ·
   replace c12 := Bool.eq_false_iff.mpr c12
   subst c12
   rw [if_neg (show ¬ (false = true) by decide)] at H
   have H' := As.mk H
   clear H
   have hnb37 := NB262_260.out
   have hnc37 := NB260_262.out
   obtain ⟨hcz38_0, hcz38_1, hcz38_2, hcz38_3, hcz38_4, hfz38_0, hfz38_1, hfz38_2, hfz38_3, hfz38_4⟩ := cl5 BK262.out
   go_wp2_with (first | ((with_reducible refine gate_callee (f := 42) rfl ?_); refine goesL_ (some 14) rfl rfl Tryd.func42 (by kernel_rfl) rfl #[.string ((rd_T93 l0_1 a1).f0)] rfl (by (try simp only [lm]); first | done | rfl | (simp only [List.length_drop, List.length_take]; rfl)) ?_; (with_reducible refine (spec_NameOk.calls k ((rd_T93 l0_1 a1).f0) false _ A11.out).mono ?_); rintro e w39 ⟨rfl, hb⟩; refine ⟨_, rfl, ?_⟩; replace BK260 := As.mk (blk_below (g := gb260) (o := .cells #[.slice A0_0 l0_0.length c0_0, .slice (some ad261) l0_1.length c0_1] 52 (0, 0)) (by refine pl ?_; refine blk_far ?_ NB260_262.out _; refine pl ?_; refine blk_far ?_ NB260_262.out _; refine pl ?_; refine blk_far ?_ NB260_262.out _; refine pl ?_; refine blk_far ?_ NB260_262.out _; refine pl ?_; refine blk_far ?_ NB260_262.out _; exact bx BK260.out) hb); replace BK262 := As.mk (blk_below (g := gb262) (o := .cells #[.string ((rd_T93 l0_1 a1).f0), .slice A261_1 ((rd_T93 l0_1 a1).f1).length c261_1, .int .i64 ((rd_T93 l0_1 a1).f2), .int .i64 ((rd_T93 l0_1 a1).f3), .int .i64 ((rd_T93 l0_1 a1).f4)] 93 (0, 0)) (by refine pl ?_; refine blk_put (cs := #[.string ((rd_T93 l0_1 a1).f0), .slice A261_1 ((rd_T93 l0_1 a1).f1).length c261_1, .int .i64 ((rd_T93 l0_1 a1).f2), .int .i64 ((rd_T93 l0_1 a1).f3), .int .i64 0]) ?_ 4 _ rfl; refine pl ?_; refine blk_put (cs := #[.string ((rd_T93 l0_1 a1).f0), .slice A261_1 ((rd_T93 l0_1 a1).f1).length c261_1, .int .i64 ((rd_T93 l0_1 a1).f2), .int .i64 0, .int .i64 0]) ?_ 3 _ rfl; refine pl ?_; refine blk_put (cs := #[.string ((rd_T93 l0_1 a1).f0), .slice A261_1 ((rd_T93 l0_1 a1).f1).length c261_1, .int .i64 0, .int .i64 0, .int .i64 0]) ?_ 2 _ rfl; refine pl ?_; refine blk_put (cs := #[.string ((rd_T93 l0_1 a1).f0), .slice none 0 0, .int .i64 0, .int .i64 0, .int .i64 0]) ?_ 1 _ rfl; refine pl ?_; refine blk_put (cs := #[.string (⟨#[]⟩ : ByteArray), .slice none 0 0, .int .i64 0, .int .i64 0, .int .i64 0]) ?_ 0 _ rfl; exact bx BK262.out) hb); replace HB := As.mk (below_step (be w) hb); (try clear hb); (try clear hb2); (try clear hk); (try clear hi)))
   go_meet
   case rel => exact ⟨_, (true), (by first | rfl | (simp; done) | (simp [*]; done)), H', ⟨by first | omega | exact Nat.le_refl _⟩, ⟨bx BK260.out⟩, ⟨bx BK262.out⟩, ⟨be w⟩⟩
  subst c12
  rw [if_pos rfl] at H
  obtain ⟨t264, A130, H⟩ := Option.bind_eq_some_iff.mp H
  try dsimp only at H
  have A13 := As.mk A130
  clear A130
  by_cases c14 : t264 = a1
  rotate_left
  ·
   rw [if_neg c14] at H
   have c14b0 : (t264 == a1) = false := beq_eq_false_iff_ne.mpr c14
   have c14b1 : (t264 != a1) = true := bne_iff_ne.mpr c14
   (first | rw [c14b0] | (simp only [i64_w, i32_w]; rw [c14b0]) | skip)
   have H' := As.mk H
   clear H
   have hnb31 := NB262_260.out
   have hnc31 := NB260_262.out
   obtain ⟨hcz32_0, hcz32_1, hcz32_2, hcz32_3, hcz32_4, hfz32_0, hfz32_1, hfz32_2, hfz32_3, hfz32_4⟩ := cl5 BK262.out
   go_wp2_with (first | ((with_reducible refine gate_callee (f := 42) rfl ?_); refine goesL_ (some 14) rfl rfl Tryd.func42 (by kernel_rfl) rfl #[.string ((rd_T93 l0_1 a1).f0)] rfl (by (try simp only [lm]); first | done | rfl | (simp only [List.length_drop, List.length_take]; rfl)) ?_; (with_reducible refine (spec_NameOk.calls k ((rd_T93 l0_1 a1).f0) true _ A11.out).mono ?_); rintro e w33 ⟨rfl, hb⟩; refine ⟨_, rfl, ?_⟩; replace BK260 := As.mk (blk_below (g := gb260) (o := .cells #[.slice A0_0 l0_0.length c0_0, .slice (some ad261) l0_1.length c0_1] 52 (0, 0)) (by refine pl ?_; refine blk_far ?_ NB260_262.out _; refine pl ?_; refine blk_far ?_ NB260_262.out _; refine pl ?_; refine blk_far ?_ NB260_262.out _; refine pl ?_; refine blk_far ?_ NB260_262.out _; refine pl ?_; refine blk_far ?_ NB260_262.out _; exact bx BK260.out) hb); replace BK262 := As.mk (blk_below (g := gb262) (o := .cells #[.string ((rd_T93 l0_1 a1).f0), .slice A261_1 ((rd_T93 l0_1 a1).f1).length c261_1, .int .i64 ((rd_T93 l0_1 a1).f2), .int .i64 ((rd_T93 l0_1 a1).f3), .int .i64 ((rd_T93 l0_1 a1).f4)] 93 (0, 0)) (by refine pl ?_; refine blk_put (cs := #[.string ((rd_T93 l0_1 a1).f0), .slice A261_1 ((rd_T93 l0_1 a1).f1).length c261_1, .int .i64 ((rd_T93 l0_1 a1).f2), .int .i64 ((rd_T93 l0_1 a1).f3), .int .i64 0]) ?_ 4 _ rfl; refine pl ?_; refine blk_put (cs := #[.string ((rd_T93 l0_1 a1).f0), .slice A261_1 ((rd_T93 l0_1 a1).f1).length c261_1, .int .i64 ((rd_T93 l0_1 a1).f2), .int .i64 0, .int .i64 0]) ?_ 3 _ rfl; refine pl ?_; refine blk_put (cs := #[.string ((rd_T93 l0_1 a1).f0), .slice A261_1 ((rd_T93 l0_1 a1).f1).length c261_1, .int .i64 0, .int .i64 0, .int .i64 0]) ?_ 2 _ rfl; refine pl ?_; refine blk_put (cs := #[.string ((rd_T93 l0_1 a1).f0), .slice none 0 0, .int .i64 0, .int .i64 0, .int .i64 0]) ?_ 1 _ rfl; refine pl ?_; refine blk_put (cs := #[.string (⟨#[]⟩ : ByteArray), .slice none 0 0, .int .i64 0, .int .i64 0, .int .i64 0]) ?_ 0 _ rfl; exact bx BK262.out) hb); replace HB := As.mk (below_step (be w) hb); (try clear hb); (try clear hb2); (try clear hk); (try clear hi); obtain ⟨hcz34_0, hcz34_1, hfz34_0, hfz34_1⟩ := cl2 BK260.out; obtain ⟨hcz35_0, hcz35_1, hcz35_2, hcz35_3, hcz35_4, hfz35_0, hfz35_1, hfz35_2, hfz35_3, hfz35_4⟩ := cl5 BK262.out) | (go_at_call 100; (with_reducible refine (spec_FnAt.calls k _ _ l0_0 _ _ l0_1 ((rd_T93 l0_1 a1).f0) t264 _ ?side1 ?side2 ?side3 ?side4 A13.out).mono ?_); (case side1 => exact Kd.C_below HR0_0.out (be w)); (case side2 => exact HC0_0.out); (case side3 => exact Kd.C_below HR0_1.out (be w)); (case side4 => exact HC0_1.out); rintro e w36 ⟨rfl, hb⟩; replace BK260 := As.mk (blk_below (bx BK260.out) hb); replace BK262 := As.mk (blk_below (bx BK262.out) hb); replace HB := As.mk (below_step (be w) hb); (try clear hb); (try clear hb2); (try clear hk); (try clear hi)))
   go_meet
   case rel => exact ⟨_, (true), (by first | rfl | (simp; done) | (simp [*]; done)), H', ⟨by first | omega | exact Nat.le_refl _⟩, ⟨bx BK260.out⟩, ⟨bx BK262.out⟩, ⟨be w⟩⟩
  rw [if_pos c14] at H
  have c14b0 : (t264 == a1) = true := beq_iff_eq.mpr c14
  have c14b1 : (t264 != a1) = false := bne_eq_false_iff_eq.mpr c14
  clear c14
  (first | rw [c14b0] | (simp only [i64_w, i32_w]; rw [c14b0]) | skip)
  by_cases c15 : (((rd_T93 l0_1 a1).f1).length : Int) > 3
  ·
   rw [if_pos c15] at H
   have c15b0 : decide (3 < (((rd_T93 l0_1 a1).f1).length : Int)) = true := decide_eq_true c15
   have c15b1 : decide (3 < ((rd_T93 l0_1 a1).f1).length) = true := decide_eq_true (by omega)
   clear c15
   have H' := As.mk H
   clear H
   have hnb16 := NB262_260.out
   have hnc16 := NB260_262.out
   obtain ⟨hcz17_0, hcz17_1, hcz17_2, hcz17_3, hcz17_4, hfz17_0, hfz17_1, hfz17_2, hfz17_3, hfz17_4⟩ := cl5 BK262.out
   go_wp2_with (first | ((with_reducible refine gate_callee (f := 42) rfl ?_); refine goesL_ (some 14) rfl rfl Tryd.func42 (by kernel_rfl) rfl #[.string ((rd_T93 l0_1 a1).f0)] rfl (by (try simp only [lm]); first | done | rfl | (simp only [List.length_drop, List.length_take]; rfl)) ?_; (with_reducible refine (spec_NameOk.calls k ((rd_T93 l0_1 a1).f0) true _ A11.out).mono ?_); rintro e w18 ⟨rfl, hb⟩; refine ⟨_, rfl, ?_⟩; replace BK260 := As.mk (blk_below (g := gb260) (o := .cells #[.slice A0_0 l0_0.length c0_0, .slice (some ad261) l0_1.length c0_1] 52 (0, 0)) (by refine pl ?_; refine blk_far ?_ NB260_262.out _; refine pl ?_; refine blk_far ?_ NB260_262.out _; refine pl ?_; refine blk_far ?_ NB260_262.out _; refine pl ?_; refine blk_far ?_ NB260_262.out _; refine pl ?_; refine blk_far ?_ NB260_262.out _; exact bx BK260.out) hb); replace BK262 := As.mk (blk_below (g := gb262) (o := .cells #[.string ((rd_T93 l0_1 a1).f0), .slice A261_1 ((rd_T93 l0_1 a1).f1).length c261_1, .int .i64 ((rd_T93 l0_1 a1).f2), .int .i64 ((rd_T93 l0_1 a1).f3), .int .i64 ((rd_T93 l0_1 a1).f4)] 93 (0, 0)) (by refine pl ?_; refine blk_put (cs := #[.string ((rd_T93 l0_1 a1).f0), .slice A261_1 ((rd_T93 l0_1 a1).f1).length c261_1, .int .i64 ((rd_T93 l0_1 a1).f2), .int .i64 ((rd_T93 l0_1 a1).f3), .int .i64 0]) ?_ 4 _ rfl; refine pl ?_; refine blk_put (cs := #[.string ((rd_T93 l0_1 a1).f0), .slice A261_1 ((rd_T93 l0_1 a1).f1).length c261_1, .int .i64 ((rd_T93 l0_1 a1).f2), .int .i64 0, .int .i64 0]) ?_ 3 _ rfl; refine pl ?_; refine blk_put (cs := #[.string ((rd_T93 l0_1 a1).f0), .slice A261_1 ((rd_T93 l0_1 a1).f1).length c261_1, .int .i64 0, .int .i64 0, .int .i64 0]) ?_ 2 _ rfl; refine pl ?_; refine blk_put (cs := #[.string ((rd_T93 l0_1 a1).f0), .slice none 0 0, .int .i64 0, .int .i64 0, .int .i64 0]) ?_ 1 _ rfl; refine pl ?_; refine blk_put (cs := #[.string (⟨#[]⟩ : ByteArray), .slice none 0 0, .int .i64 0, .int .i64 0, .int .i64 0]) ?_ 0 _ rfl; exact bx BK262.out) hb); replace HB := As.mk (below_step (be w) hb); (try clear hb); (try clear hb2); (try clear hk); (try clear hi); obtain ⟨hcz19_0, hcz19_1, hfz19_0, hfz19_1⟩ := cl2 BK260.out; obtain ⟨hcz20_0, hcz20_1, hcz20_2, hcz20_3, hcz20_4, hfz20_0, hfz20_1, hfz20_2, hfz20_3, hfz20_4⟩ := cl5 BK262.out) | (go_at_call 100; (with_reducible refine (spec_FnAt.calls k _ _ l0_0 _ _ l0_1 ((rd_T93 l0_1 a1).f0) t264 _ ?side1 ?side2 ?side3 ?side4 A13.out).mono ?_); (case side1 => exact Kd.C_below HR0_0.out (be w)); (case side2 => exact HC0_0.out); (case side3 => exact Kd.C_below HR0_1.out (be w)); (case side4 => exact HC0_1.out); rintro e w21 ⟨rfl, hb⟩; replace BK260 := As.mk (blk_below (bx BK260.out) hb); replace BK262 := As.mk (blk_below (bx BK262.out) hb); replace HB := As.mk (below_step (be w) hb); (try clear hb); (try clear hb2); (try clear hk); (try clear hi); obtain ⟨hcz22_0, hcz22_1, hcz22_2, hcz22_3, hcz22_4, hfz22_0, hfz22_1, hfz22_2, hfz22_3, hfz22_4⟩ := cl5 BK262.out))
   go_meet
   case rel => exact ⟨_, (true), (by first | rfl | (simp; done) | (simp [*]; done)), H', ⟨by first | omega | exact Nat.le_refl _⟩, ⟨bx BK260.out⟩, ⟨bx BK262.out⟩, ⟨be w⟩⟩
  rw [if_neg c15] at H
  have c15b0 : decide (3 < (((rd_T93 l0_1 a1).f1).length : Int)) = false := decide_eq_false c15
  have c15b1 : decide (3 < ((rd_T93 l0_1 a1).f1).length) = false := decide_eq_false (by omega)
  clear c15
  obtain ⟨t265, A230, H⟩ := Option.bind_eq_some_iff.mp H
  try dsimp only at H
  have A23 := As.mk A230
  clear A230
  have H' := As.mk H
  clear H
  have hnb24 := NB262_260.out
  have hnc24 := NB260_262.out
  obtain ⟨hcz25_0, hcz25_1, hcz25_2, hcz25_3, hcz25_4, hfz25_0, hfz25_1, hfz25_2, hfz25_3, hfz25_4⟩ := cl5 BK262.out
  go_wp2_with (first | ((with_reducible refine gate_callee (f := 42) rfl ?_); refine goesL_ (some 14) rfl rfl Tryd.func42 (by kernel_rfl) rfl #[.string ((rd_T93 l0_1 a1).f0)] rfl (by (try simp only [lm]); first | done | rfl | (simp only [List.length_drop, List.length_take]; rfl)) ?_; (with_reducible refine (spec_NameOk.calls k ((rd_T93 l0_1 a1).f0) true _ A11.out).mono ?_); rintro e w26 ⟨rfl, hb⟩; refine ⟨_, rfl, ?_⟩; replace BK260 := As.mk (blk_below (g := gb260) (o := .cells #[.slice A0_0 l0_0.length c0_0, .slice (some ad261) l0_1.length c0_1] 52 (0, 0)) (by refine pl ?_; refine blk_far ?_ NB260_262.out _; refine pl ?_; refine blk_far ?_ NB260_262.out _; refine pl ?_; refine blk_far ?_ NB260_262.out _; refine pl ?_; refine blk_far ?_ NB260_262.out _; refine pl ?_; refine blk_far ?_ NB260_262.out _; exact bx BK260.out) hb); replace BK262 := As.mk (blk_below (g := gb262) (o := .cells #[.string ((rd_T93 l0_1 a1).f0), .slice A261_1 ((rd_T93 l0_1 a1).f1).length c261_1, .int .i64 ((rd_T93 l0_1 a1).f2), .int .i64 ((rd_T93 l0_1 a1).f3), .int .i64 ((rd_T93 l0_1 a1).f4)] 93 (0, 0)) (by refine pl ?_; refine blk_put (cs := #[.string ((rd_T93 l0_1 a1).f0), .slice A261_1 ((rd_T93 l0_1 a1).f1).length c261_1, .int .i64 ((rd_T93 l0_1 a1).f2), .int .i64 ((rd_T93 l0_1 a1).f3), .int .i64 0]) ?_ 4 _ rfl; refine pl ?_; refine blk_put (cs := #[.string ((rd_T93 l0_1 a1).f0), .slice A261_1 ((rd_T93 l0_1 a1).f1).length c261_1, .int .i64 ((rd_T93 l0_1 a1).f2), .int .i64 0, .int .i64 0]) ?_ 3 _ rfl; refine pl ?_; refine blk_put (cs := #[.string ((rd_T93 l0_1 a1).f0), .slice A261_1 ((rd_T93 l0_1 a1).f1).length c261_1, .int .i64 0, .int .i64 0, .int .i64 0]) ?_ 2 _ rfl; refine pl ?_; refine blk_put (cs := #[.string ((rd_T93 l0_1 a1).f0), .slice none 0 0, .int .i64 0, .int .i64 0, .int .i64 0]) ?_ 1 _ rfl; refine pl ?_; refine blk_put (cs := #[.string (⟨#[]⟩ : ByteArray), .slice none 0 0, .int .i64 0, .int .i64 0, .int .i64 0]) ?_ 0 _ rfl; exact bx BK262.out) hb); replace HB := As.mk (below_step (be w) hb); (try clear hb); (try clear hb2); (try clear hk); (try clear hi); obtain ⟨hcz27_0, hcz27_1, hfz27_0, hfz27_1⟩ := cl2 BK260.out; obtain ⟨hcz28_0, hcz28_1, hcz28_2, hcz28_3, hcz28_4, hfz28_0, hfz28_1, hfz28_2, hfz28_3, hfz28_4⟩ := cl5 BK262.out) | (go_at_call 100; (with_reducible refine (spec_FnAt.calls k _ _ l0_0 _ _ l0_1 ((rd_T93 l0_1 a1).f0) t264 _ ?side1 ?side2 ?side3 ?side4 A13.out).mono ?_); (case side1 => exact Kd.C_below HR0_0.out (be w)); (case side2 => exact HC0_0.out); (case side3 => exact Kd.C_below HR0_1.out (be w)); (case side4 => exact HC0_1.out); rintro e w29 ⟨rfl, hb⟩; replace BK260 := As.mk (blk_below (bx BK260.out) hb); replace BK262 := As.mk (blk_below (bx BK262.out) hb); replace HB := As.mk (below_step (be w) hb); (try clear hb); (try clear hb2); (try clear hk); (try clear hi); obtain ⟨hcz30_0, hcz30_1, hcz30_2, hcz30_3, hcz30_4, hfz30_0, hfz30_1, hfz30_2, hfz30_3, hfz30_4⟩ := cl5 BK262.out) | (go_at_call 39; (with_reducible refine (spec_l01In.calls ((rd_T93 l0_1 a1).f2) 0 2 t265 _ A23.out).mono ?_); rintro e w' ⟨rfl, ⟨nd, rfl⟩⟩))
  go_meet
  case rel => exact ⟨_, (!t265), (by first | rfl | (simp; done) | (simp [*]; done)), H', ⟨by first | omega | exact Nat.le_refl _⟩, ⟨bx BK260.out⟩, ⟨bx BK262.out⟩, ⟨be w⟩⟩
 case rest =>
  clear HC5
  (try clear c3); (try clear c3b0); (try clear c4); (try clear c4b0); (try clear hcz10_0); (try clear hcz10_1); (try clear hcz10_2); (try clear hcz10_3); (try clear hcz10_4); (try clear hcz7_0); (try clear hcz7_1); (try clear hfz10_0); (try clear hfz10_1); (try clear hfz10_2); (try clear hfz10_3); (try clear hfz10_4); (try clear hfz7_0); (try clear hfz7_1); (try clear hx261_0); (try clear hx261_1); (try clear hx261_2); (try clear hx261_3); (try clear hx261_4); (try clear p261); (try clear q261)
  obtain ⟨kq, x35_4, rfl, HA, HJ4, BK260, BK262, HB⟩ := hcut
  cases kq with
  | zero => exact absurd HA.out (by simp [spec_l04Fn.j0])
  | succ kj4 =>
   have H := HA.out
   clear HA
   simp only [spec_l04Fn.j0] at H
   by_cases c40 : x35_4 = true
   ·
    subst c40
    rw [if_pos rfl] at H
    obtain rfl := Option.some.inj H
    go_wp2
    go_ret
    exact ⟨by first | rfl | (simp [errW_none, errW_some] <;> rfl) | (simp [*, errW_none, errW_some] <;> rfl), be w⟩
   replace c40 := Bool.eq_false_iff.mpr c40
   subst c40
   rw [if_neg (show ¬ (false = true) by decide)] at H
   have H' := As.mk H
   clear H
   go_wp2
   go_loopg [6] kj4 (fun kq v6 w' => ∃ (x6_2 : Int), v6 = .int .i64 x6_2 ∧ As (spec_l04Fn.l0 kq x6_2 l0_0 l0_1 ((rd_T93 l0_1 a1).f0) ((rd_T93 l0_1 a1).f1) ((rd_T93 l0_1 a1).f2) ((rd_T93 l0_1 a1).f3) ((rd_T93 l0_1 a1).f4) = some r) ∧ As (kq ≤ kj4) ∧ As (w'.heap[gb260]? = some (.cells #[(.slice A0_0 l0_0.length c0_0), (.slice (some ad261) l0_1.length c0_1)] 52 (0, 0))) ∧ As (w'.heap[gb262]? = some (.cells #[.string ((rd_T93 l0_1 a1).f0), (.slice A261_1 ((rd_T93 l0_1 a1).f1).length c261_1), .int .i64 ((rd_T93 l0_1 a1).f2), .int .i64 ((rd_T93 l0_1 a1).f3), .int .i64 ((rd_T93 l0_1 a1).f4)] 93 (0, 0))) ∧ As (Below w.heap.size w w'))
   case atStart => exact ⟨(0), (by first | rfl | (simp; done) | (simp [*]; done)), H', ⟨Nat.le_refl _⟩, ⟨bx BK260.out⟩, ⟨bx BK262.out⟩, ⟨be w⟩⟩
   case round =>
    clear H'
    (try clear c3); (try clear c3b0); (try clear c4); (try clear c4b0); (try clear c40); (try clear hcz10_0); (try clear hcz10_1); (try clear hcz10_2); (try clear hcz10_3); (try clear hcz10_4); (try clear hcz7_0); (try clear hcz7_1); (try clear hfz10_0); (try clear hfz10_1); (try clear hfz10_2); (try clear hfz10_3); (try clear hfz10_4); (try clear hfz7_0); (try clear hfz7_1); (try clear hx261_0); (try clear hx261_1); (try clear hx261_2); (try clear hx261_3); (try clear hx261_4); (try clear p261); (try clear q261)
    obtain ⟨x6_2, rfl, HA, HK2, BK260, BK262, HB⟩ := hrel
    cases gk with
    | zero => exact absurd HA.out (by simp [spec_l04Fn.l0])
    | succ k2 =>
     have H := HA.out
     clear HA
     simp only [spec_l04Fn.l0] at H
     by_cases c41 : x6_2 < (((rd_T93 l0_1 a1).f1).length : Int)
     ·
      rw [if_pos c41] at H
      have c41b0 : decide (x6_2 < (((rd_T93 l0_1 a1).f1).length : Int)) = true := decide_eq_true c41
      clear c41
      by_cases c42 : 0 ≤ x6_2
      rotate_left
      ·
       rw [if_neg c42] at H
       exact absurd H (by simp)
      rw [if_pos c42] at H
      have c42b0 : decide (0 ≤ x6_2) = true := decide_eq_true c42
      clear c42
      obtain ⟨t267, A430, H⟩ := Option.bind_eq_some_iff.mp H
      try dsimp only at H
      have A43 := As.mk A430
      clear A430
      by_cases c44 : t267 = true
      rotate_left
      ·
       replace c44 := Bool.eq_false_iff.mpr c44
       subst c44
       rw [if_neg (show ¬ (false = true) by decide)] at H
       obtain rfl := Option.some.inj H
       obtain ⟨hcz54_0, hcz54_1, hcz54_2, hcz54_3, hcz54_4, hfz54_0, hfz54_1, hfz54_2, hfz54_3, hfz54_4⟩ := cl5 BK262.out
       have p266 : 0 ≤ (x6_2 : Int) := of_decide_eq_true (by first | (with_reducible assumption) | assumption)
       have q266 : x6_2 < (((rd_T93 l0_1 a1).f1).length : Int) := of_decide_eq_true (by first | (with_reducible assumption) | assumption)
       obtain ⟨ad266, e266, hx266_0, hx266_1⟩ := at_T95 HR261_1.out x6_2 p266 q266
       cases e266
       replace hx266_0 := ce HB.out hx266_0
       replace hx266_1 := ce HB.out hx266_1
       replace p266 := eq_true p266
       replace q266 := eq_true q266
       go_wp2_with (first | ((with_reducible refine gate_callee (f := 42) rfl ?_); refine goesL_ (some 49) rfl rfl Tryd.func42 (by kernel_rfl) rfl #[.string ((rd_T95 ((rd_T93 l0_1 a1).f1) x6_2).f0)] rfl (by (try simp only [lm]); first | done | rfl | (simp only [List.length_drop, List.length_take]; rfl)) ?_; (with_reducible refine (spec_NameOk.calls k2 ((rd_T95 ((rd_T93 l0_1 a1).f1) x6_2).f0) false _ A43.out).mono ?_); rintro e w55 ⟨rfl, hb⟩; refine ⟨_, rfl, ?_⟩; replace HB := As.mk (below_step (be w) hb); (try clear hb); (try clear hb2); (try clear hk); (try clear hi)))
       go_ret
       exact ⟨by first | rfl | (simp [errW_none, errW_some] <;> rfl) | (simp [*, errW_none, errW_some] <;> rfl), be w⟩
      subst c44
      rw [if_pos rfl] at H
      obtain ⟨t269, A450, H⟩ := Option.bind_eq_some_iff.mp H
      try dsimp only at H
      have A45 := As.mk A450
      clear A450
      by_cases c46 : t269 = true
      rotate_left
      ·
       replace c46 := Bool.eq_false_iff.mpr c46
       subst c46
       rw [if_neg (show ¬ (false = true) by decide)] at H
       obtain rfl := Option.some.inj H
       obtain ⟨hcz51_0, hcz51_1, hcz51_2, hcz51_3, hcz51_4, hfz51_0, hfz51_1, hfz51_2, hfz51_3, hfz51_4⟩ := cl5 BK262.out
       have p266 : 0 ≤ (x6_2 : Int) := of_decide_eq_true (by first | (with_reducible assumption) | assumption)
       have q266 : x6_2 < (((rd_T93 l0_1 a1).f1).length : Int) := of_decide_eq_true (by first | (with_reducible assumption) | assumption)
       obtain ⟨ad266, e266, hx266_0, hx266_1⟩ := at_T95 HR261_1.out x6_2 p266 q266
       cases e266
       replace hx266_0 := ce HB.out hx266_0
       replace hx266_1 := ce HB.out hx266_1
       replace p266 := eq_true p266
       replace q266 := eq_true q266
       go_wp2_with (first | ((with_reducible refine gate_callee (f := 42) rfl ?_); refine goesL_ (some 49) rfl rfl Tryd.func42 (by kernel_rfl) rfl #[.string ((rd_T95 ((rd_T93 l0_1 a1).f1) x6_2).f0)] rfl (by (try simp only [lm]); first | done | rfl | (simp only [List.length_drop, List.length_take]; rfl)) ?_; (with_reducible refine (spec_NameOk.calls k2 ((rd_T95 ((rd_T93 l0_1 a1).f1) x6_2).f0) true _ A43.out).mono ?_); rintro e w52 ⟨rfl, hb⟩; refine ⟨_, rfl, ?_⟩; replace BK262 := As.mk (blk_below (bx BK262.out) hb); replace HB := As.mk (below_step (be w) hb); (try clear hb); (try clear hb2); (try clear hk); (try clear hi); obtain ⟨hcz53_0, hcz53_1, hcz53_2, hcz53_3, hcz53_4, hfz53_0, hfz53_1, hfz53_2, hfz53_3, hfz53_4⟩ := cl5 BK262.out; have p268 : 0 ≤ (x6_2 : Int) := of_decide_eq_true (by first | (with_reducible assumption) | assumption); have q268 : x6_2 < (((rd_T93 l0_1 a1).f1).length : Int) := of_decide_eq_true (by first | (with_reducible assumption) | assumption); obtain ⟨ad268, e268, hx268_0, hx268_1⟩ := at_T95 HR261_1.out x6_2 p268 q268; obtain rfl : ad266 = ad268 := (by injection e268); replace hx268_0 := ce HB.out hx268_0; replace hx268_1 := ce HB.out hx268_1; replace p268 := eq_true p268; replace q268 := eq_true q268) | (go_at_call 39; (with_reducible refine (spec_l01In.calls ((rd_T95 ((rd_T93 l0_1 a1).f1) x6_2).f1) 1 4 false _ A45.out).mono ?_); rintro e w' ⟨rfl, ⟨nd, rfl⟩⟩))
       go_ret
       exact ⟨by first | rfl | (simp [errW_none, errW_some] <;> rfl) | (simp [*, errW_none, errW_some] <;> rfl), be w⟩
      subst c46
      rw [if_pos rfl] at H
      have H' := As.mk H
      clear H
      have hnb47 := NB262_260.out
      have hnc47 := NB260_262.out
      obtain ⟨hcz48_0, hcz48_1, hcz48_2, hcz48_3, hcz48_4, hfz48_0, hfz48_1, hfz48_2, hfz48_3, hfz48_4⟩ := cl5 BK262.out
      have p266 : 0 ≤ (x6_2 : Int) := of_decide_eq_true (by first | (with_reducible assumption) | assumption)
      have q266 : x6_2 < (((rd_T93 l0_1 a1).f1).length : Int) := of_decide_eq_true (by first | (with_reducible assumption) | assumption)
      obtain ⟨ad266, e266, hx266_0, hx266_1⟩ := at_T95 HR261_1.out x6_2 p266 q266
      cases e266
      replace hx266_0 := ce HB.out hx266_0
      replace hx266_1 := ce HB.out hx266_1
      replace p266 := eq_true p266
      replace q266 := eq_true q266
      go_wp2_with (first | ((with_reducible refine gate_callee (f := 42) rfl ?_); refine goesL_ (some 49) rfl rfl Tryd.func42 (by kernel_rfl) rfl #[.string ((rd_T95 ((rd_T93 l0_1 a1).f1) x6_2).f0)] rfl (by (try simp only [lm]); first | done | rfl | (simp only [List.length_drop, List.length_take]; rfl)) ?_; (with_reducible refine (spec_NameOk.calls k2 ((rd_T95 ((rd_T93 l0_1 a1).f1) x6_2).f0) true _ A43.out).mono ?_); rintro e w49 ⟨rfl, hb⟩; refine ⟨_, rfl, ?_⟩; replace BK260 := As.mk (blk_below (bx BK260.out) hb); replace BK262 := As.mk (blk_below (bx BK262.out) hb); replace HB := As.mk (below_step (be w) hb); (try clear hb); (try clear hb2); (try clear hk); (try clear hi); obtain ⟨hcz50_0, hcz50_1, hcz50_2, hcz50_3, hcz50_4, hfz50_0, hfz50_1, hfz50_2, hfz50_3, hfz50_4⟩ := cl5 BK262.out; have p268 : 0 ≤ (x6_2 : Int) := of_decide_eq_true (by first | (with_reducible assumption) | assumption); have q268 : x6_2 < (((rd_T93 l0_1 a1).f1).length : Int) := of_decide_eq_true (by first | (with_reducible assumption) | assumption); obtain ⟨ad268, e268, hx268_0, hx268_1⟩ := at_T95 HR261_1.out x6_2 p268 q268; obtain rfl : ad266 = ad268 := (by injection e268); replace hx268_0 := ce HB.out hx268_0; replace hx268_1 := ce HB.out hx268_1; replace p268 := eq_true p268; replace q268 := eq_true q268) | (go_at_call 39; (with_reducible refine (spec_l01In.calls ((rd_T95 ((rd_T93 l0_1 a1).f1) x6_2).f1) 1 4 true _ A45.out).mono ?_); rintro e w' ⟨rfl, ⟨nd, rfl⟩⟩))
      go_roundg k2
      case measure => have := HJ4.out; have := HK2.out; omega
      case rel => exact ⟨(wrap64 (x6_2 + 1)), (by first | rfl | (simp; done) | (simp [*]; done)), H', ⟨by have := HJ4.out; have := HK2.out; omega⟩, ⟨bx BK260.out⟩, ⟨bx BK262.out⟩, ⟨be w⟩⟩
     rw [if_neg c41] at H
     have c41b0 : decide (x6_2 < (((rd_T93 l0_1 a1).f1).length : Int)) = false := decide_eq_false c41
     clear c41
     have HC56 := As.mk H
     clear H
     have hnb57 := NB262_260.out
     have hnc57 := NB260_262.out
     obtain ⟨hcz58_0, hcz58_1, hcz58_2, hcz58_3, hcz58_4, hfz58_0, hfz58_1, hfz58_2, hfz58_3, hfz58_4⟩ := cl5 BK262.out
     go_upto_region 9 with (fail)
     go_cut [78] (fun v78 wc => ∃ (kq : Nat) (x78_55 : Bool), v78 = .bool x78_55 ∧ As (spec_l04Fn.j2 kq x78_55 l0_0 l0_1 ((rd_T93 l0_1 a1).f0) ((rd_T93 l0_1 a1).f1) ((rd_T93 l0_1 a1).f2) ((rd_T93 l0_1 a1).f3) ((rd_T93 l0_1 a1).f4) = some r) ∧ As (kq ≤ k2) ∧ As (wc.heap[gb260]? = some (.cells #[(.slice A0_0 l0_0.length c0_0), (.slice (some ad261) l0_1.length c0_1)] 52 (0, 0))) ∧ As (wc.heap[gb262]? = some (.cells #[.string ((rd_T93 l0_1 a1).f0), (.slice A261_1 ((rd_T93 l0_1 a1).f1).length c261_1), .int .i64 ((rd_T93 l0_1 a1).f2), .int .i64 ((rd_T93 l0_1 a1).f3), .int .i64 ((rd_T93 l0_1 a1).f4)] 93 (0, 0))) ∧ As (Below w.heap.size w wc))
     case first =>
      have H := HC56.out
      clear HC56
      obtain ⟨t270, A590, H⟩ := Option.bind_eq_some_iff.mp H
      try dsimp only at H
      have A59 := As.mk A590
      clear A590
      by_cases c60 : t270 = true
      rotate_left
      ·
       replace c60 := Bool.eq_false_iff.mpr c60
       subst c60
       rw [if_neg (show ¬ (false = true) by decide)] at H
       have H' := As.mk H
       clear H
       have hnb66 := NB262_260.out
       have hnc66 := NB260_262.out
       obtain ⟨hcz67_0, hcz67_1, hcz67_2, hcz67_3, hcz67_4, hfz67_0, hfz67_1, hfz67_2, hfz67_3, hfz67_4⟩ := cl5 BK262.out
       obtain ⟨hcz68_0, hcz68_1, hfz68_0, hfz68_1⟩ := cl2 BK260.out
       go_wp2_with (first | ((with_reducible refine gate_callee (f := 39) rfl ?_); refine goesL_ (some 67) rfl rfl Tryd.func39 (by kernel_rfl) rfl #[.int .i64 ((rd_T93 l0_1 a1).f3), .int .i64 0, .int .i64 (wrap64 ((l0_0.length : Int) - 1))] rfl (by (try simp only [lm]); first | done | rfl | (simp only [List.length_drop, List.length_take]; rfl)) ?_; (with_reducible refine (spec_l01In.calls ((rd_T93 l0_1 a1).f3) 0 (wrap64 ((l0_0.length : Int) - 1)) false _ A59.out).mono ?_); rintro e w' ⟨rfl, ⟨nd, rfl⟩⟩; refine ⟨_, rfl, ?_⟩))
       go_meet
       case rel => exact ⟨_, (true), (by first | rfl | (simp; done) | (simp [*]; done)), H', ⟨by have := HJ4.out; have := HK2.out; first | omega | exact Nat.le_refl _⟩, ⟨bx BK260.out⟩, ⟨bx BK262.out⟩, ⟨be w⟩⟩
      subst c60
      rw [if_pos rfl] at H
      by_cases c61 : 0 ≤ ((rd_T93 l0_1 a1).f3)
      rotate_left
      ·
       rw [if_neg c61] at H
       exact absurd H (by simp)
      rw [if_pos c61] at H
      have c61b0 : decide (0 ≤ ((rd_T93 l0_1 a1).f3)) = true := decide_eq_true c61
      clear c61
      (first | rw [c61b0] | (simp only [i64_w, i32_w]; rw [c61b0]) | skip)
      by_cases c62 : ((rd_T93 l0_1 a1).f3) < (l0_0.length : Int)
      rotate_left
      ·
       rw [if_neg c62] at H
       exact absurd H (by simp)
      rw [if_pos c62] at H
      have c62b0 : decide (((rd_T93 l0_1 a1).f3) < (l0_0.length : Int)) = true := decide_eq_true c62
      clear c62
      have H' := As.mk H
      clear H
      have hnb63 := NB262_260.out
      have hnc63 := NB260_262.out
      obtain ⟨hcz64_0, hcz64_1, hcz64_2, hcz64_3, hcz64_4, hfz64_0, hfz64_1, hfz64_2, hfz64_3, hfz64_4⟩ := cl5 BK262.out
      obtain ⟨hcz65_0, hcz65_1, hfz65_0, hfz65_1⟩ := cl2 BK260.out
      go_wp2_with (first | ((with_reducible refine gate_callee (f := 39) rfl ?_); refine goesL_ (some 67) rfl rfl Tryd.func39 (by kernel_rfl) rfl #[.int .i64 ((rd_T93 l0_1 a1).f3), .int .i64 0, .int .i64 (wrap64 ((l0_0.length : Int) - 1))] rfl (by (try simp only [lm]); first | done | rfl | (simp only [List.length_drop, List.length_take]; rfl)) ?_; (with_reducible refine (spec_l01In.calls ((rd_T93 l0_1 a1).f3) 0 (wrap64 ((l0_0.length : Int) - 1)) true _ A59.out).mono ?_); rintro e w' ⟨rfl, ⟨nd, rfl⟩⟩; refine ⟨_, rfl, ?_⟩; have p271 : 0 ≤ (((rd_T93 l0_1 a1).f3) : Int) := of_decide_eq_true (by first | (with_reducible assumption) | assumption); have q271 : ((rd_T93 l0_1 a1).f3) < (l0_0.length : Int) := of_decide_eq_true (by first | (with_reducible assumption) | assumption); obtain ⟨ad271, A271_3, c271_3, e271, hx271_0, hx271_1, hx271_2, hx271_3, hl271_3, hi271_3⟩ := at_T64 HR0_0.out ((rd_T93 l0_1 a1).f3) p271 q271; cases e271; replace hx271_0 := ce HB.out hx271_0; replace hx271_1 := ce HB.out hx271_1; replace hx271_2 := ce HB.out hx271_2; replace hx271_3 := ce HB.out hx271_3; have HR271_3 := As.mk hi271_3; have HC271_3 := As.mk hl271_3; clear hi271_3 hl271_3; replace p271 := eq_true p271; replace q271 := eq_true q271))
      go_meet
      case rel => exact ⟨_, ((((rd_T64 l0_0 ((rd_T93 l0_1 a1).f3)).f0) != 20)), (by first | rfl | (simp; done) | (simp [*]; done)), H', ⟨by have := HJ4.out; have := HK2.out; first | omega | exact Nat.le_refl _⟩, ⟨bx BK260.out⟩, ⟨bx BK262.out⟩, ⟨be w⟩⟩
     case rest =>
      clear HC56
      (try clear c3); (try clear c3b0); (try clear c4); (try clear c4b0); (try clear c40); (try clear c41); (try clear c41b0); (try clear hcz10_0); (try clear hcz10_1); (try clear hcz10_2); (try clear hcz10_3); (try clear hcz10_4); (try clear hcz58_0); (try clear hcz58_1); (try clear hcz58_2); (try clear hcz58_3); (try clear hcz58_4); (try clear hcz7_0); (try clear hcz7_1); (try clear hfz10_0); (try clear hfz10_1); (try clear hfz10_2); (try clear hfz10_3); (try clear hfz10_4); (try clear hfz58_0); (try clear hfz58_1); (try clear hfz58_2); (try clear hfz58_3); (try clear hfz58_4); (try clear hfz7_0); (try clear hfz7_1); (try clear hx261_0); (try clear hx261_1); (try clear hx261_2); (try clear hx261_3); (try clear hx261_4); (try clear p261); (try clear q261)
      obtain ⟨kq, x78_55, rfl, HA, HJ55, BK260, BK262, HB⟩ := hcut
      cases kq with
      | zero => exact absurd HA.out (by simp [spec_l04Fn.j2])
      | succ kj55 =>
       have H := HA.out
       clear HA
       simp only [spec_l04Fn.j2] at H
       by_cases c69 : x78_55 = true
       ·
        subst c69
        rw [if_pos rfl] at H
        obtain rfl := Option.some.inj H
        go_wp2
        go_ret
        exact ⟨by first | rfl | (simp [errW_none, errW_some] <;> rfl) | (simp [*, errW_none, errW_some] <;> rfl), be w⟩
       replace c69 := Bool.eq_false_iff.mpr c69
       subst c69
       rw [if_neg (show ¬ (false = true) by decide)] at H
       by_cases c70 : ((rd_T93 l0_1 a1).f2) = 0
       ·
        rw [if_pos c70] at H
        have c70b0 : (((rd_T93 l0_1 a1).f2) == 0) = true := beq_iff_eq.mpr c70
        have c70b1 : (((rd_T93 l0_1 a1).f2) != 0) = false := bne_eq_false_iff_eq.mpr c70
        clear c70
        obtain rfl := Option.some.inj H
        obtain ⟨hcz71_0, hcz71_1, hcz71_2, hcz71_3, hcz71_4, hfz71_0, hfz71_1, hfz71_2, hfz71_3, hfz71_4⟩ := cl5 BK262.out
        go_wp2
        go_ret
        exact ⟨by first | rfl | (simp [errW_none, errW_some] <;> rfl) | (simp [*, errW_none, errW_some] <;> rfl), be w⟩
       rw [if_neg c70] at H
       have c70b0 : (((rd_T93 l0_1 a1).f2) == 0) = false := beq_eq_false_iff_ne.mpr c70
       have c70b1 : (((rd_T93 l0_1 a1).f2) != 0) = true := bne_iff_ne.mpr c70
       obtain ⟨t272, A720, H⟩ := Option.bind_eq_some_iff.mp H
       try dsimp only at H
       have A72 := As.mk A720
       clear A720
       by_cases c73 : t272 = true
       rotate_left
       ·
        replace c73 := Bool.eq_false_iff.mpr c73
        subst c73
        rw [if_neg (show ¬ (false = true) by decide)] at H
        obtain rfl := Option.some.inj H
        have hnb80 := NB262_260.out
        have hnc80 := NB260_262.out
        obtain ⟨hcz81_0, hcz81_1, hcz81_2, hcz81_3, hcz81_4, hfz81_0, hfz81_1, hfz81_2, hfz81_3, hfz81_4⟩ := cl5 BK262.out
        obtain ⟨hcz82_0, hcz82_1, hfz82_0, hfz82_1⟩ := cl2 BK260.out
        go_wp2_with (first | ((with_reducible refine gate_callee (f := 39) rfl ?_); refine goesL_ (some 91) rfl rfl Tryd.func39 (by kernel_rfl) rfl #[.int .i64 ((rd_T93 l0_1 a1).f4), .int .i64 0, .int .i64 (wrap64 ((l0_0.length : Int) - 1))] rfl (by (try simp only [lm]); first | done | rfl | (simp only [List.length_drop, List.length_take]; rfl)) ?_; (with_reducible refine (spec_l01In.calls ((rd_T93 l0_1 a1).f4) 0 (wrap64 ((l0_0.length : Int) - 1)) false _ A72.out).mono ?_); rintro e w' ⟨rfl, ⟨nd, rfl⟩⟩; refine ⟨_, rfl, ?_⟩))
        go_ret
        exact ⟨by first | rfl | (simp [errW_none, errW_some] <;> rfl) | (simp [*, errW_none, errW_some] <;> rfl), be w⟩
       subst c73
       rw [if_pos rfl] at H
       by_cases c74 : 0 ≤ ((rd_T93 l0_1 a1).f4)
       rotate_left
       ·
        rw [if_neg c74] at H
        exact absurd H (by simp)
       rw [if_pos c74] at H
       have c74b0 : decide (0 ≤ ((rd_T93 l0_1 a1).f4)) = true := decide_eq_true c74
       clear c74
       by_cases c75 : ((rd_T93 l0_1 a1).f4) < (l0_0.length : Int)
       rotate_left
       ·
        rw [if_neg c75] at H
        exact absurd H (by simp)
       rw [if_pos c75] at H
       have c75b0 : decide (((rd_T93 l0_1 a1).f4) < (l0_0.length : Int)) = true := decide_eq_true c75
       clear c75
       obtain ⟨t274, A760, H⟩ := Option.bind_eq_some_iff.mp H
       try dsimp only at H
       have A76 := As.mk A760
       clear A760
       obtain rfl := Option.some.inj H
       have hnb77 := NB262_260.out
       have hnc77 := NB260_262.out
       obtain ⟨hcz78_0, hcz78_1, hcz78_2, hcz78_3, hcz78_4, hfz78_0, hfz78_1, hfz78_2, hfz78_3, hfz78_4⟩ := cl5 BK262.out
       obtain ⟨hcz79_0, hcz79_1, hfz79_0, hfz79_1⟩ := cl2 BK260.out
       go_wp2_with (first | ((with_reducible refine gate_callee (f := 39) rfl ?_); refine goesL_ (some 91) rfl rfl Tryd.func39 (by kernel_rfl) rfl #[.int .i64 ((rd_T93 l0_1 a1).f4), .int .i64 0, .int .i64 (wrap64 ((l0_0.length : Int) - 1))] rfl (by (try simp only [lm]); first | done | rfl | (simp only [List.length_drop, List.length_take]; rfl)) ?_; (with_reducible refine (spec_l01In.calls ((rd_T93 l0_1 a1).f4) 0 (wrap64 ((l0_0.length : Int) - 1)) true _ A72.out).mono ?_); rintro e w' ⟨rfl, ⟨nd, rfl⟩⟩; refine ⟨_, rfl, ?_⟩; have p273 : 0 ≤ (((rd_T93 l0_1 a1).f4) : Int) := of_decide_eq_true (by first | (with_reducible assumption) | assumption); have q273 : ((rd_T93 l0_1 a1).f4) < (l0_0.length : Int) := of_decide_eq_true (by first | (with_reducible assumption) | assumption); obtain ⟨ad273, A273_3, c273_3, e273, hx273_0, hx273_1, hx273_2, hx273_3, hl273_3, hi273_3⟩ := at_T64 HR0_0.out ((rd_T93 l0_1 a1).f4) p273 q273; cases e273; replace hx273_0 := ce HB.out hx273_0; replace hx273_1 := ce HB.out hx273_1; replace hx273_2 := ce HB.out hx273_2; replace hx273_3 := ce HB.out hx273_3; have HR273_3 := As.mk hi273_3; have HC273_3 := As.mk hl273_3; clear hi273_3 hl273_3; replace p273 := eq_true p273; replace q273 := eq_true q273) | (go_at_call 82; (with_reducible refine (spec_l04Value.calls ((rd_T64 l0_0 ((rd_T93 l0_1 a1).f4)).f0) t274 _ A76.out).mono ?_); rintro e w' ⟨rfl, ⟨nd, rfl⟩⟩))
       go_ret
       exact ⟨by first | rfl | (simp [errW_none, errW_some] <;> rfl) | (simp [*, errW_none, errW_some] <;> rfl), be w⟩
end Go.Proofs.YtmdpggibcjkfoaaDoor.PFnExactProgramOk
