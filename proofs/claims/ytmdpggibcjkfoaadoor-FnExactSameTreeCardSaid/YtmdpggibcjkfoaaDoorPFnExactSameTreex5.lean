/- Written by a program of this session (a turned copy of the kit's print): a contract for each Go function. No condition beside those in each statement. -/
import Derived.Test.YtmdpggibcjkfoaaDoorPFnExactSameTreex0
import Derived.Test.YtmdpggibcjkfoaaDoorPFnExactSameTreex4
namespace Go.Proofs.YtmdpggibcjkfoaaDoor.PFnExactSameTree
open Go.RowKit Go.Proofs.YtmdpggibcjkfoaaDoor.Given Go.Proofs.YtmdpggibcjkfoaaDoorW.PrintWords Go.Proofs.YtmdpggibcjkfoaaDoorW.PrintLast Go.Proofs.YtmdpggibcjkfoaaDoorW.PrintMore
attribute [local go_sem] max2_int min2_int max_two min_two max_three min_three max_four min_four   -- for this text's walks alone
set_option linter.unusedVariables false
set_option linter.unusedSimpArgs false

/-! ### spec_l05Same: function 68 -/
mutual
def spec_l05Same.j0 : Nat → List (S64) → List (S64) → Bool → Int → Int → ByteArray → List Int → Int → Int → ByteArray → List Int → Option (Bool)
 | 0, _, _, _, _, _, _, _, _, _, _, _ => none
 | k + 1, x0, x2, x47, x175000, x175001, x175002, x175003, x177000, x177001, x177002, x177003 => if x47 = true then (some false) else (spec_l05Same.l0 k x0 x2 0 x175000 x175001 x175002 x175003 x177000 x177001 x177002 x177003)
def spec_l05Same.l0 : Nat → List (S64) → List (S64) → Int → Int → Int → ByteArray → List Int → Int → Int → ByteArray → List Int → Option (Bool)
 | 0, _, _, _, _, _, _, _, _, _, _, _ => none
 | k + 1, x0, x2, x11, x175000, x175001, x175002, x175003, x177000, x177001, x177002, x177003 => if x11 < (x175003.length : Int) then (if 0 ≤ x11 then (if x11 < (x177003.length : Int) then ((spec_l05Same.f k x0 (rd x175003 x11) x2 (rd x177003 x11)).bind fun t179 => (if t179 = true then (spec_l05Same.l0 k x0 x2 (wrap64 (x11 + 1)) x175000 x175001 x175002 x175003 x177000 x177001 x177002 x177003) else (some false))) else (none)) else (none)) else (some true)
def spec_l05Same.f : Nat → List (S64) → Int → List (S64) → Int → Option (Bool)
 | 0, _, _, _, _ => none
 | k + 1, l0, a1, l2, a3 => if 0 ≤ a1 then (if a1 < (l0.length : Int) then (if 0 ≤ a3 then (if a3 < (l2.length : Int) then (if ((rd_T64 l0 a1).f0) = ((rd_T64 l2 a3).f0) then (if ((rd_T64 l0 a1).f1) = ((rd_T64 l2 a3).f1) then (if ((rd_T64 l0 a1).f2).toList = ((rd_T64 l2 a3).f2).toList then (spec_l05Same.j0 k l0 l2 ((((rd_T64 l0 a1).f3).length : Int) != (((rd_T64 l2 a3).f3).length : Int)) ((rd_T64 l0 a1).f0) ((rd_T64 l0 a1).f1) ((rd_T64 l0 a1).f2) ((rd_T64 l0 a1).f3) ((rd_T64 l2 a3).f0) ((rd_T64 l2 a3).f1) ((rd_T64 l2 a3).f2) ((rd_T64 l2 a3).f3)) else (spec_l05Same.j0 k l0 l2 true ((rd_T64 l0 a1).f0) ((rd_T64 l0 a1).f1) ((rd_T64 l0 a1).f2) ((rd_T64 l0 a1).f3) ((rd_T64 l2 a3).f0) ((rd_T64 l2 a3).f1) ((rd_T64 l2 a3).f2) ((rd_T64 l2 a3).f3))) else (spec_l05Same.j0 k l0 l2 true ((rd_T64 l0 a1).f0) ((rd_T64 l0 a1).f1) ((rd_T64 l0 a1).f2) ((rd_T64 l0 a1).f3) ((rd_T64 l2 a3).f0) ((rd_T64 l2 a3).f1) ((rd_T64 l2 a3).f2) ((rd_T64 l2 a3).f3))) else (spec_l05Same.j0 k l0 l2 true ((rd_T64 l0 a1).f0) ((rd_T64 l0 a1).f1) ((rd_T64 l0 a1).f2) ((rd_T64 l0 a1).f3) ((rd_T64 l2 a3).f0) ((rd_T64 l2 a3).f1) ((rd_T64 l2 a3).f2) ((rd_T64 l2 a3).f3))) else (none)) else (none)) else (none)) else (none)
end
theorem spec_l05Same.mono_l : ∀ k, (∀ y0 y1 y2 y3, LeO (spec_l05Same.f k y0 y1 y2 y3) (spec_l05Same.f (k + 1) y0 y1 y2 y3)) ∧ (∀ y0 y1 y2 y3 y4 y5 y6 y7 y8 y9 y10, LeO (spec_l05Same.j0 k y0 y1 y2 y3 y4 y5 y6 y7 y8 y9 y10) (spec_l05Same.j0 (k + 1) y0 y1 y2 y3 y4 y5 y6 y7 y8 y9 y10)) ∧ (∀ y0 y1 y2 y3 y4 y5 y6 y7 y8 y9 y10, LeO (spec_l05Same.l0 k y0 y1 y2 y3 y4 y5 y6 y7 y8 y9 y10) (spec_l05Same.l0 (k + 1) y0 y1 y2 y3 y4 y5 y6 y7 y8 y9 y10))
 | 0 => ⟨fun _ _ _ _ r h => by simp [spec_l05Same.f] at h, fun _ _ _ _ _ _ _ _ _ _ _ r h => by simp [spec_l05Same.j0] at h, fun _ _ _ _ _ _ _ _ _ _ _ r h => by simp [spec_l05Same.l0] at h⟩
 | k + 1 => by
  obtain ⟨ih0, ih1, ih2⟩ := spec_l05Same.mono_l k
  refine ⟨?_, ?_, ?_⟩
  ·
   intro y0 y1 y2 y3
   unfold spec_l05Same.f
   with_reducible repeat' first | exact ih0 _ _ _ _ | exact ih1 _ _ _ _ _ _ _ _ _ _ _ | exact ih2 _ _ _ _ _ _ _ _ _ _ _ | exact LeO.refl _ | exact LeO.none _ | refine LeO.ite ?_ ?_ | refine LeO.bind ?_ (fun _ => ?_)
  ·
   intro y0 y1 y2 y3 y4 y5 y6 y7 y8 y9 y10
   unfold spec_l05Same.j0
   with_reducible repeat' first | exact ih0 _ _ _ _ | exact ih1 _ _ _ _ _ _ _ _ _ _ _ | exact ih2 _ _ _ _ _ _ _ _ _ _ _ | exact LeO.refl _ | exact LeO.none _ | refine LeO.ite ?_ ?_ | refine LeO.bind ?_ (fun _ => ?_)
  ·
   intro y0 y1 y2 y3 y4 y5 y6 y7 y8 y9 y10
   unfold spec_l05Same.l0
   with_reducible repeat' first | exact ih0 _ _ _ _ | exact ih1 _ _ _ _ _ _ _ _ _ _ _ | exact ih2 _ _ _ _ _ _ _ _ _ _ _ | exact LeO.refl _ | exact LeO.none _ | refine LeO.ite ?_ ?_ | refine LeO.bind ?_ (fun _ => ?_)
theorem spec_l05Same.mono : ∀ a0 a1 a2 a3 k, LeO (spec_l05Same.f k a0 a1 a2 a3) (spec_l05Same.f (k + 1) a0 a1 a2 a3) := by
 intro a0 a1 a2 a3 k
 obtain ⟨ih0, ih1, ih2⟩ := spec_l05Same.mono_l k
 exact ih0 a0 a1 a2 a3
def spec_l05Same.T8 : Bool × List (List Nat × List Nat) := (true, [([], []), ([], []), ([1], [1]), ([], []), ([2, 3], [2, 3]), ([4], [4]), ([], []), ([], []), ([7], [7]), ([], []), ([8, 9], [8, 9]), ([10], [10]), ([0, 5, 6, 11], [0, 5, 6, 11]), ([12], [12])])
def spec_l05Same.B8 : List Nat := [0, 0, 2, 0, 14, 30, 0, 0, 128, 0, 896, 1920, 4095, 8191]
theorem spec_l05Same.tab8 : rtab .any (opsOf Tryd.f68 8) = spec_l05Same.T8 := by kernel_rfl
theorem spec_l05Same.bits8 : waitsOk spec_l05Same.T8.2 spec_l05Same.B8 = true := by kernel_rfl
set_option maxHeartbeats 8000000 in
set_option maxRecDepth 100000 in
theorem spec_l05Same.calls (k : Nat) : ∀ (A0 : Option Addr) (c0 : Nat) (l0 : List (S64)) (a1 : Int) (A2 : Option Addr) (c2 : Nat) (l2 : List (S64)) (a3 : Int) (r : Bool) (w : World) (hr0 : Kd.C k64 w A0 l0.length l0) (hc0 : l0.length ≤ c0) (hr2 : Kd.C k64 w A2 l2.length l2) (hc2 : l2.length ≤ c2) (h : spec_l05Same.f k l0 a1 l2 a3 = some r),
  Calls Tryd.prog 68 #[.slice A0 l0.length c0, .int .i64 a1, .slice A2 l2.length c2, .int .i64 a3] w fun e w' => e = .returned (.bool r) ∧ Below w.heap.size w w' := by
 induction k using Nat.strongRecOn with
 | _ k ih =>
 intro A0 c0 l0 a1 A2 c2 l2 a3 r w hr0 hc0 hr2 hc2 h
 cases k with
 | zero => exact absurd h (by simp [spec_l05Same.f])
 | succ k =>
 simp only [spec_l05Same.f] at h
 have hu64 := Tryd.underlying64
 have HR0 := As.mk hr0
 have HC0 := As.mk hc0
 clear hr0 hc0
 have HR2 := As.mk hr2
 have HC2 := As.mk hc2
 clear hr2 hc2
 have HB := As.mk (Below.refl w.heap.size w)
 have H : (if 0 ≤ a1 then (if a1 < (l0.length : Int) then (if 0 ≤ a3 then (if a3 < (l2.length : Int) then (if ((rd_T64 l0 a1).f0) = ((rd_T64 l2 a3).f0) then (if ((rd_T64 l0 a1).f1) = ((rd_T64 l2 a3).f1) then (if ((rd_T64 l0 a1).f2).toList = ((rd_T64 l2 a3).f2).toList then (spec_l05Same.j0 k l0 l2 ((((rd_T64 l0 a1).f3).length : Int) != (((rd_T64 l2 a3).f3).length : Int)) ((rd_T64 l0 a1).f0) ((rd_T64 l0 a1).f1) ((rd_T64 l0 a1).f2) ((rd_T64 l0 a1).f3) ((rd_T64 l2 a3).f0) ((rd_T64 l2 a3).f1) ((rd_T64 l2 a3).f2) ((rd_T64 l2 a3).f3)) else (spec_l05Same.j0 k l0 l2 true ((rd_T64 l0 a1).f0) ((rd_T64 l0 a1).f1) ((rd_T64 l0 a1).f2) ((rd_T64 l0 a1).f3) ((rd_T64 l2 a3).f0) ((rd_T64 l2 a3).f1) ((rd_T64 l2 a3).f2) ((rd_T64 l2 a3).f3))) else (spec_l05Same.j0 k l0 l2 true ((rd_T64 l0 a1).f0) ((rd_T64 l0 a1).f1) ((rd_T64 l0 a1).f2) ((rd_T64 l0 a1).f3) ((rd_T64 l2 a3).f0) ((rd_T64 l2 a3).f1) ((rd_T64 l2 a3).f2) ((rd_T64 l2 a3).f3))) else (spec_l05Same.j0 k l0 l2 true ((rd_T64 l0 a1).f0) ((rd_T64 l0 a1).f1) ((rd_T64 l0 a1).f2) ((rd_T64 l0 a1).f3) ((rd_T64 l2 a3).f0) ((rd_T64 l2 a3).f1) ((rd_T64 l2 a3).f2) ((rd_T64 l2 a3).f3))) else (none)) else (none)) else (none)) else (none)) = some r := h
 clear h
 by_cases c5 : 0 ≤ a1
 rotate_left
 ·
  rw [if_neg c5] at H
  exact absurd H (by simp)

 rw [if_pos c5] at H
 have c5b0 : decide (0 ≤ a1) = true := decide_eq_true c5
 clear c5
 by_cases c6 : a1 < (l0.length : Int)
 rotate_left
 ·
  rw [if_neg c6] at H
  exact absurd H (by simp)
 rw [if_pos c6] at H
 have c6b0 : decide (a1 < (l0.length : Int)) = true := decide_eq_true c6
 clear c6
 by_cases c7 : 0 ≤ a3
 rotate_left
 ·
  rw [if_neg c7] at H
  exact absurd H (by simp)
 rw [if_pos c7] at H
 have c7b0 : decide (0 ≤ a3) = true := decide_eq_true c7
 clear c7
 by_cases c8 : a3 < (l2.length : Int)
 rotate_left
 ·
  rw [if_neg c8] at H
  exact absurd H (by simp)
 rw [if_pos c8] at H
 have c8b0 : decide (a3 < (l2.length : Int)) = true := decide_eq_true c8
 clear c8
 have HC9 := As.mk H
 clear H
 have p173 : 0 ≤ (a1 : Int) := of_decide_eq_true (by first | (with_reducible assumption) | assumption)
 have q173 : a1 < (l0.length : Int) := of_decide_eq_true (by first | (with_reducible assumption) | assumption)
 obtain ⟨ad173, A173_3, c173_3, e173, hx173_0, hx173_1, hx173_2, hx173_3, hl173_3, hi173_3⟩ := at_T64 HR0.out a1 p173 q173
 cases e173
 have HR173_3 := As.mk hi173_3
 have HC173_3 := As.mk hl173_3
 clear hi173_3 hl173_3
 replace p173 := eq_true p173
 replace q173 := eq_true q173
 go_enter Tryd.func68, Tryd.ntmps68
 go_upto_region 3 with (first | ((with_reducible refine gate_dst (N := 9) rfl ?_); (try (refine gate_guard (by rfl) ?_; dsimp only)); refine box_event ?hg (N := 9) ?hd (cs := #[.int .i64 0, .int .i64 0, .string (⟨#[]⟩ : ByteArray), .slice none 0 0]) (t := 64) ?hr ?_; (case hd => rfl); (case hg => rfl); (case hr => first | (go_simp; done) | (go_simp; rfl)); intro gb174 hg w10 hbox hb; have BK174 := As.mk (hbox); have GW174 := As.mk (gs w hg); have GE174 := As.mk (gs w hg); replace HB := As.mk (below_step (be w) hb); clear hb hbox hg; obtain ⟨hcz11_0, hcz11_1, hcz11_2, hcz11_3, hfz11_0, hfz11_1, hfz11_2, hfz11_3⟩ := cl4 BK174.out; have p175 : 0 ≤ (a3 : Int) := of_decide_eq_true (by first | (with_reducible assumption) | assumption); have q175 : a3 < (l2.length : Int) := of_decide_eq_true (by first | (with_reducible assumption) | assumption); obtain ⟨ad175, A175_3, c175_3, e175, hx175_0, hx175_1, hx175_2, hx175_3, hl175_3, hi175_3⟩ := at_T64 HR2.out a3 p175 q175; cases e175; have hn175_0 : ad175.block ≠ gb174 := (by first | exact nb2 hx175_0 GW174.out | exact nb1 hx175_0 GW174.out); have hn175_1 : ad175.block ≠ gb174 := (by first | exact nb2 hx175_0 GW174.out | exact nb1 hx175_0 GW174.out); have hn175_2 : ad175.block ≠ gb174 := (by first | exact nb2 hx175_0 GW174.out | exact nb1 hx175_0 GW174.out); have hn175_3 : ad175.block ≠ gb174 := (by first | exact nb2 hx175_0 GW174.out | exact nb1 hx175_0 GW174.out); replace hx175_0 := ce HB.out hx175_0; replace hx175_1 := ce HB.out hx175_1; replace hx175_2 := ce HB.out hx175_2; replace hx175_3 := ce HB.out hx175_3; have HR175_3 := As.mk hi175_3; have HC175_3 := As.mk hl175_3; clear hi175_3 hl175_3; replace hx175_0 := cf0 (j := 0) (.int .i64 ((rd_T64 l0 a1).f0)) hx175_0 hn175_0; replace hx175_1 := cf1 (j := 0) (.int .i64 ((rd_T64 l0 a1).f0)) hx175_1 hn175_0; replace hx175_2 := cf1 (j := 0) (.int .i64 ((rd_T64 l0 a1).f0)) hx175_2 hn175_0; replace hx175_3 := cf1 (j := 0) (.int .i64 ((rd_T64 l0 a1).f0)) hx175_3 hn175_0; replace hx175_0 := cf0 (j := 1) (.int .i64 ((rd_T64 l0 a1).f1)) hx175_0 hn175_1; replace hx175_1 := cf1 (j := 1) (.int .i64 ((rd_T64 l0 a1).f1)) hx175_1 hn175_1; replace hx175_2 := cf1 (j := 1) (.int .i64 ((rd_T64 l0 a1).f1)) hx175_2 hn175_1; replace hx175_3 := cf1 (j := 1) (.int .i64 ((rd_T64 l0 a1).f1)) hx175_3 hn175_1; replace hx175_0 := cf0 (j := 2) (.string ((rd_T64 l0 a1).f2)) hx175_0 hn175_2; replace hx175_1 := cf1 (j := 2) (.string ((rd_T64 l0 a1).f2)) hx175_1 hn175_2; replace hx175_2 := cf1 (j := 2) (.string ((rd_T64 l0 a1).f2)) hx175_2 hn175_2; replace hx175_3 := cf1 (j := 2) (.string ((rd_T64 l0 a1).f2)) hx175_3 hn175_2; replace hx175_0 := cf0 (j := 3) (.slice A173_3 ((rd_T64 l0 a1).f3).length c173_3) hx175_0 hn175_3; replace hx175_1 := cf1 (j := 3) (.slice A173_3 ((rd_T64 l0 a1).f3).length c173_3) hx175_1 hn175_3; replace hx175_2 := cf1 (j := 3) (.slice A173_3 ((rd_T64 l0 a1).f3).length c173_3) hx175_2 hn175_3; replace hx175_3 := cf1 (j := 3) (.slice A173_3 ((rd_T64 l0 a1).f3).length c173_3) hx175_3 hn175_3; clear hn175_0; clear hn175_1; clear hn175_2; clear hn175_3; replace p175 := eq_true p175; replace q175 := eq_true q175) | ((with_reducible refine gate_dst (N := 10) rfl ?_); (try (refine gate_guard (by rfl) ?_; dsimp only)); refine box_event ?hg (N := 10) ?hd (cs := #[.int .i64 0, .int .i64 0, .string (⟨#[]⟩ : ByteArray), .slice none 0 0]) (t := 64) ?hr ?_; (case hd => rfl); (case hg => rfl); (case hr => first | (go_simp; done) | (go_simp; rfl)); intro gb176 hg w12 hbox hb; have BK176 := As.mk (hbox); have GW176 := As.mk (gs w hg); have GE176 := As.mk (gs w hg); replace HB := As.mk (below_step (be w) hb); have NB174_176 := As.mk ((by rw [hg]; exact Nat.ne_of_lt (blk_lt (g := gb174) (o := .cells #[.int .i64 ((rd_T64 l0 a1).f0), .int .i64 ((rd_T64 l0 a1).f1), .string ((rd_T64 l0 a1).f2), .slice A173_3 ((rd_T64 l0 a1).f3).length c173_3] 64 (0, 0)) (by refine pl ?_; refine blk_put (cs := #[.int .i64 ((rd_T64 l0 a1).f0), .int .i64 ((rd_T64 l0 a1).f1), .string ((rd_T64 l0 a1).f2), .slice none 0 0]) ?_ 3 _ rfl; refine pl ?_; refine blk_put (cs := #[.int .i64 ((rd_T64 l0 a1).f0), .int .i64 ((rd_T64 l0 a1).f1), .string (⟨#[]⟩ : ByteArray), .slice none 0 0]) ?_ 2 _ rfl; refine pl ?_; refine blk_put (cs := #[.int .i64 ((rd_T64 l0 a1).f0), .int .i64 0, .string (⟨#[]⟩ : ByteArray), .slice none 0 0]) ?_ 1 _ rfl; refine pl ?_; refine blk_put (cs := #[.int .i64 0, .int .i64 0, .string (⟨#[]⟩ : ByteArray), .slice none 0 0]) ?_ 0 _ rfl; exact bx BK174.out)) : gb174 ≠ gb176)); have NB176_174 := As.mk ((by rw [hg]; exact Nat.ne_of_gt (blk_lt (g := gb174) (o := .cells #[.int .i64 ((rd_T64 l0 a1).f0), .int .i64 ((rd_T64 l0 a1).f1), .string ((rd_T64 l0 a1).f2), .slice A173_3 ((rd_T64 l0 a1).f3).length c173_3] 64 (0, 0)) (by refine pl ?_; refine blk_put (cs := #[.int .i64 ((rd_T64 l0 a1).f0), .int .i64 ((rd_T64 l0 a1).f1), .string ((rd_T64 l0 a1).f2), .slice none 0 0]) ?_ 3 _ rfl; refine pl ?_; refine blk_put (cs := #[.int .i64 ((rd_T64 l0 a1).f0), .int .i64 ((rd_T64 l0 a1).f1), .string (⟨#[]⟩ : ByteArray), .slice none 0 0]) ?_ 2 _ rfl; refine pl ?_; refine blk_put (cs := #[.int .i64 ((rd_T64 l0 a1).f0), .int .i64 0, .string (⟨#[]⟩ : ByteArray), .slice none 0 0]) ?_ 1 _ rfl; refine pl ?_; refine blk_put (cs := #[.int .i64 0, .int .i64 0, .string (⟨#[]⟩ : ByteArray), .slice none 0 0]) ?_ 0 _ rfl; exact bx BK174.out)) : gb176 ≠ gb174)); replace BK174 := As.mk (blk_below (g := gb174) (o := .cells #[.int .i64 ((rd_T64 l0 a1).f0), .int .i64 ((rd_T64 l0 a1).f1), .string ((rd_T64 l0 a1).f2), .slice A173_3 ((rd_T64 l0 a1).f3).length c173_3] 64 (0, 0)) (by refine pl ?_; refine blk_put (cs := #[.int .i64 ((rd_T64 l0 a1).f0), .int .i64 ((rd_T64 l0 a1).f1), .string ((rd_T64 l0 a1).f2), .slice none 0 0]) ?_ 3 _ rfl; refine pl ?_; refine blk_put (cs := #[.int .i64 ((rd_T64 l0 a1).f0), .int .i64 ((rd_T64 l0 a1).f1), .string (⟨#[]⟩ : ByteArray), .slice none 0 0]) ?_ 2 _ rfl; refine pl ?_; refine blk_put (cs := #[.int .i64 ((rd_T64 l0 a1).f0), .int .i64 0, .string (⟨#[]⟩ : ByteArray), .slice none 0 0]) ?_ 1 _ rfl; refine pl ?_; refine blk_put (cs := #[.int .i64 0, .int .i64 0, .string (⟨#[]⟩ : ByteArray), .slice none 0 0]) ?_ 0 _ rfl; exact bx BK174.out) hb); clear hb hbox hg; have hnb13 := NB176_174.out; have hnc13 := NB174_176.out; obtain ⟨hcz14_0, hcz14_1, hcz14_2, hcz14_3, hfz14_0, hfz14_1, hfz14_2, hfz14_3⟩ := cl4 BK176.out))
 (try simp only [pk])
 go_cut [47] (fun v47 wc => ∃ (kq : Nat) (x47_8 : Bool), v47 = .bool x47_8 ∧ As (spec_l05Same.j0 kq l0 l2 x47_8 ((rd_T64 l0 a1).f0) ((rd_T64 l0 a1).f1) ((rd_T64 l0 a1).f2) ((rd_T64 l0 a1).f3) ((rd_T64 l2 a3).f0) ((rd_T64 l2 a3).f1) ((rd_T64 l2 a3).f2) ((rd_T64 l2 a3).f3) = some r) ∧ As (kq ≤ k) ∧ As (wc.heap[gb174]? = some (.cells #[.int .i64 ((rd_T64 l0 a1).f0), .int .i64 ((rd_T64 l0 a1).f1), .string ((rd_T64 l0 a1).f2), (.slice A173_3 ((rd_T64 l0 a1).f3).length c173_3)] 64 (0, 0))) ∧ As (wc.heap[gb176]? = some (.cells #[.int .i64 ((rd_T64 l2 a3).f0), .int .i64 ((rd_T64 l2 a3).f1), .string ((rd_T64 l2 a3).f2), (.slice A175_3 ((rd_T64 l2 a3).f3).length c175_3)] 64 (0, 0))) ∧ As (Below w.heap.size w wc))
 case first =>
  have H := HC9.out
  clear HC9
  by_cases c15 : ((rd_T64 l0 a1).f0) = ((rd_T64 l2 a3).f0)
  rotate_left
  ·
   rw [if_neg c15] at H
   have c15b0 : (((rd_T64 l0 a1).f0) == ((rd_T64 l2 a3).f0)) = false := beq_eq_false_iff_ne.mpr c15
   have c15b1 : (((rd_T64 l0 a1).f0) != ((rd_T64 l2 a3).f0)) = true := bne_iff_ne.mpr c15
   (first | rw [c15b0] | (simp only [i64_w, i32_w]; rw [c15b0]) | skip)
   have H' := As.mk H
   clear H
   have hnb27 := NB174_176.out
   have hnc27 := NB176_174.out
   obtain ⟨hcz28_0, hcz28_1, hcz28_2, hcz28_3, hfz28_0, hfz28_1, hfz28_2, hfz28_3⟩ := cl4 BK174.out
   obtain ⟨hcz29_0, hcz29_1, hcz29_2, hcz29_3, hfz29_0, hfz29_1, hfz29_2, hfz29_3⟩ := cl4 BK176.out
   go_wp2
   go_meet
   case rel => exact ⟨_, (true), (by first | rfl | (simp; done) | (simp [*]; done)), H', ⟨by first | omega | exact Nat.le_refl _⟩, ⟨by refine pl ?_; refine blk_far ?_ NB174_176.out _; refine pl ?_; refine blk_far ?_ NB174_176.out _; refine pl ?_; refine blk_far ?_ NB174_176.out _; refine pl ?_; refine blk_far ?_ NB174_176.out _; exact bx BK174.out⟩, ⟨by refine pl ?_; refine blk_put (cs := #[.int .i64 ((rd_T64 l2 a3).f0), .int .i64 ((rd_T64 l2 a3).f1), .string ((rd_T64 l2 a3).f2), .slice none 0 0]) ?_ 3 _ rfl; refine pl ?_; refine blk_put (cs := #[.int .i64 ((rd_T64 l2 a3).f0), .int .i64 ((rd_T64 l2 a3).f1), .string (⟨#[]⟩ : ByteArray), .slice none 0 0]) ?_ 2 _ rfl; refine pl ?_; refine blk_put (cs := #[.int .i64 ((rd_T64 l2 a3).f0), .int .i64 0, .string (⟨#[]⟩ : ByteArray), .slice none 0 0]) ?_ 1 _ rfl; refine pl ?_; refine blk_put (cs := #[.int .i64 0, .int .i64 0, .string (⟨#[]⟩ : ByteArray), .slice none 0 0]) ?_ 0 _ rfl; exact bx BK176.out⟩, ⟨be w⟩⟩
  rw [if_pos c15] at H
  have c15b0 : (((rd_T64 l0 a1).f0) == ((rd_T64 l2 a3).f0)) = true := beq_iff_eq.mpr c15
  have c15b1 : (((rd_T64 l0 a1).f0) != ((rd_T64 l2 a3).f0)) = false := bne_eq_false_iff_eq.mpr c15
  clear c15
  (first | rw [c15b0] | (simp only [i64_w, i32_w]; rw [c15b0]) | skip)
  by_cases c16 : ((rd_T64 l0 a1).f1) = ((rd_T64 l2 a3).f1)
  rotate_left
  ·
   rw [if_neg c16] at H
   have c16b0 : (((rd_T64 l0 a1).f1) == ((rd_T64 l2 a3).f1)) = false := beq_eq_false_iff_ne.mpr c16
   have c16b1 : (((rd_T64 l0 a1).f1) != ((rd_T64 l2 a3).f1)) = true := bne_iff_ne.mpr c16
   have H' := As.mk H
   clear H
   have hnb24 := NB174_176.out
   have hnc24 := NB176_174.out
   obtain ⟨hcz25_0, hcz25_1, hcz25_2, hcz25_3, hfz25_0, hfz25_1, hfz25_2, hfz25_3⟩ := cl4 BK174.out
   obtain ⟨hcz26_0, hcz26_1, hcz26_2, hcz26_3, hfz26_0, hfz26_1, hfz26_2, hfz26_3⟩ := cl4 BK176.out
   go_wp2
   go_meet
   case rel => exact ⟨_, (true), (by first | rfl | (simp; done) | (simp [*]; done)), H', ⟨by first | omega | exact Nat.le_refl _⟩, ⟨by refine pl ?_; refine blk_far ?_ NB174_176.out _; refine pl ?_; refine blk_far ?_ NB174_176.out _; refine pl ?_; refine blk_far ?_ NB174_176.out _; refine pl ?_; refine blk_far ?_ NB174_176.out _; exact bx BK174.out⟩, ⟨by refine pl ?_; refine blk_put (cs := #[.int .i64 ((rd_T64 l2 a3).f0), .int .i64 ((rd_T64 l2 a3).f1), .string ((rd_T64 l2 a3).f2), .slice none 0 0]) ?_ 3 _ rfl; refine pl ?_; refine blk_put (cs := #[.int .i64 ((rd_T64 l2 a3).f0), .int .i64 ((rd_T64 l2 a3).f1), .string (⟨#[]⟩ : ByteArray), .slice none 0 0]) ?_ 2 _ rfl; refine pl ?_; refine blk_put (cs := #[.int .i64 ((rd_T64 l2 a3).f0), .int .i64 0, .string (⟨#[]⟩ : ByteArray), .slice none 0 0]) ?_ 1 _ rfl; refine pl ?_; refine blk_put (cs := #[.int .i64 0, .int .i64 0, .string (⟨#[]⟩ : ByteArray), .slice none 0 0]) ?_ 0 _ rfl; exact bx BK176.out⟩, ⟨be w⟩⟩
  rw [if_pos c16] at H
  have c16b0 : (((rd_T64 l0 a1).f1) == ((rd_T64 l2 a3).f1)) = true := beq_iff_eq.mpr c16
  have c16b1 : (((rd_T64 l0 a1).f1) != ((rd_T64 l2 a3).f1)) = false := bne_eq_false_iff_eq.mpr c16
  clear c16
  by_cases c17 : ((rd_T64 l0 a1).f2).toList = ((rd_T64 l2 a3).f2).toList
  rotate_left
  ·
   rw [if_neg c17] at H
   have c17b0 : (((rd_T64 l0 a1).f2).toList == ((rd_T64 l2 a3).f2).toList) = false := beq_eq_false_iff_ne.mpr c17
   have c17b1 : (((rd_T64 l0 a1).f2).toList != ((rd_T64 l2 a3).f2).toList) = true := bne_iff_ne.mpr c17
   have H' := As.mk H
   clear H
   have hnb21 := NB174_176.out
   have hnc21 := NB176_174.out
   obtain ⟨hcz22_0, hcz22_1, hcz22_2, hcz22_3, hfz22_0, hfz22_1, hfz22_2, hfz22_3⟩ := cl4 BK174.out
   obtain ⟨hcz23_0, hcz23_1, hcz23_2, hcz23_3, hfz23_0, hfz23_1, hfz23_2, hfz23_3⟩ := cl4 BK176.out
   go_wp2
   go_meet
   case rel => exact ⟨_, (true), (by first | rfl | (simp; done) | (simp [*]; done)), H', ⟨by first | omega | exact Nat.le_refl _⟩, ⟨by refine pl ?_; refine blk_far ?_ NB174_176.out _; refine pl ?_; refine blk_far ?_ NB174_176.out _; refine pl ?_; refine blk_far ?_ NB174_176.out _; refine pl ?_; refine blk_far ?_ NB174_176.out _; exact bx BK174.out⟩, ⟨by refine pl ?_; refine blk_put (cs := #[.int .i64 ((rd_T64 l2 a3).f0), .int .i64 ((rd_T64 l2 a3).f1), .string ((rd_T64 l2 a3).f2), .slice none 0 0]) ?_ 3 _ rfl; refine pl ?_; refine blk_put (cs := #[.int .i64 ((rd_T64 l2 a3).f0), .int .i64 ((rd_T64 l2 a3).f1), .string (⟨#[]⟩ : ByteArray), .slice none 0 0]) ?_ 2 _ rfl; refine pl ?_; refine blk_put (cs := #[.int .i64 ((rd_T64 l2 a3).f0), .int .i64 0, .string (⟨#[]⟩ : ByteArray), .slice none 0 0]) ?_ 1 _ rfl; refine pl ?_; refine blk_put (cs := #[.int .i64 0, .int .i64 0, .string (⟨#[]⟩ : ByteArray), .slice none 0 0]) ?_ 0 _ rfl; exact bx BK176.out⟩, ⟨be w⟩⟩
  rw [if_pos c17] at H
  have c17b0 : (((rd_T64 l0 a1).f2).toList == ((rd_T64 l2 a3).f2).toList) = true := beq_iff_eq.mpr c17
  have c17b1 : (((rd_T64 l0 a1).f2).toList != ((rd_T64 l2 a3).f2).toList) = false := bne_eq_false_iff_eq.mpr c17
  clear c17
  have H' := As.mk H
  clear H
  have hnb18 := NB174_176.out
  have hnc18 := NB176_174.out
  obtain ⟨hcz19_0, hcz19_1, hcz19_2, hcz19_3, hfz19_0, hfz19_1, hfz19_2, hfz19_3⟩ := cl4 BK174.out
  obtain ⟨hcz20_0, hcz20_1, hcz20_2, hcz20_3, hfz20_0, hfz20_1, hfz20_2, hfz20_3⟩ := cl4 BK176.out
  go_wp2
  go_meet
  case rel => exact ⟨_, (((((rd_T64 l0 a1).f3).length : Int) != (((rd_T64 l2 a3).f3).length : Int))), (by first | rfl | (simp; done) | (simp [*]; done)), H', ⟨by first | omega | exact Nat.le_refl _⟩, ⟨by refine pl ?_; refine blk_far ?_ NB174_176.out _; refine pl ?_; refine blk_far ?_ NB174_176.out _; refine pl ?_; refine blk_far ?_ NB174_176.out _; refine pl ?_; refine blk_far ?_ NB174_176.out _; exact bx BK174.out⟩, ⟨by refine pl ?_; refine blk_put (cs := #[.int .i64 ((rd_T64 l2 a3).f0), .int .i64 ((rd_T64 l2 a3).f1), .string ((rd_T64 l2 a3).f2), .slice none 0 0]) ?_ 3 _ rfl; refine pl ?_; refine blk_put (cs := #[.int .i64 ((rd_T64 l2 a3).f0), .int .i64 ((rd_T64 l2 a3).f1), .string (⟨#[]⟩ : ByteArray), .slice none 0 0]) ?_ 2 _ rfl; refine pl ?_; refine blk_put (cs := #[.int .i64 ((rd_T64 l2 a3).f0), .int .i64 0, .string (⟨#[]⟩ : ByteArray), .slice none 0 0]) ?_ 1 _ rfl; refine pl ?_; refine blk_put (cs := #[.int .i64 0, .int .i64 0, .string (⟨#[]⟩ : ByteArray), .slice none 0 0]) ?_ 0 _ rfl; exact bx BK176.out⟩, ⟨be w⟩⟩
 case rest =>
  clear HC9
  (try clear c2); (try clear c5); (try clear c5b0); (try clear c6); (try clear c6b0); (try clear c7); (try clear c7b0); (try clear c8); (try clear c8b0); (try clear hcz11_0); (try clear hcz11_1); (try clear hcz11_2); (try clear hcz11_3); (try clear hcz14_0); (try clear hcz14_1); (try clear hcz14_2); (try clear hcz14_3); (try clear hfz11_0); (try clear hfz11_1); (try clear hfz11_2); (try clear hfz11_3); (try clear hfz14_0); (try clear hfz14_1); (try clear hfz14_2); (try clear hfz14_3); (try clear hx173_0); (try clear hx173_1); (try clear hx173_2); (try clear hx173_3); (try clear hx175_0); (try clear hx175_1); (try clear hx175_2); (try clear hx175_3); (try clear p173); (try clear p175); (try clear q173); (try clear q175)
  obtain ⟨kq, x47_8, rfl, HA, HJ8, BK174, BK176, HB⟩ := hcut
  cases kq with
  | zero => exact absurd HA.out (by simp [spec_l05Same.j0])
  | succ kj8 =>
   have H := HA.out
   clear HA
   simp only [spec_l05Same.j0] at H
   by_cases c30 : x47_8 = true
   ·
    subst c30
    rw [if_pos rfl] at H
    obtain rfl := Option.some.inj H
    go_wp2
    go_ret
    exact ⟨by first | rfl | (simp [errW_none, errW_some] <;> rfl) | (simp [*, errW_none, errW_some] <;> rfl), be w⟩
   replace c30 := Bool.eq_false_iff.mpr c30
   subst c30
   rw [if_neg (show ¬ (false = true) by decide)] at H
   have H' := As.mk H
   clear H
   go_wp2
   go_loopg [11] kj8 (fun kq v11 w' => ∃ (x11_2 : Int), v11 = .int .i64 x11_2 ∧ As (spec_l05Same.l0 kq l0 l2 x11_2 ((rd_T64 l0 a1).f0) ((rd_T64 l0 a1).f1) ((rd_T64 l0 a1).f2) ((rd_T64 l0 a1).f3) ((rd_T64 l2 a3).f0) ((rd_T64 l2 a3).f1) ((rd_T64 l2 a3).f2) ((rd_T64 l2 a3).f3) = some r) ∧ As (kq ≤ kj8) ∧ As (w'.heap[gb174]? = some (.cells #[.int .i64 ((rd_T64 l0 a1).f0), .int .i64 ((rd_T64 l0 a1).f1), .string ((rd_T64 l0 a1).f2), (.slice A173_3 ((rd_T64 l0 a1).f3).length c173_3)] 64 (0, 0))) ∧ As (w'.heap[gb176]? = some (.cells #[.int .i64 ((rd_T64 l2 a3).f0), .int .i64 ((rd_T64 l2 a3).f1), .string ((rd_T64 l2 a3).f2), (.slice A175_3 ((rd_T64 l2 a3).f3).length c175_3)] 64 (0, 0))) ∧ As (Below w.heap.size w w'))
   case atStart => exact ⟨(0), (by first | rfl | (simp; done) | (simp [*]; done)), H', ⟨Nat.le_refl _⟩, ⟨bx BK174.out⟩, ⟨bx BK176.out⟩, ⟨be w⟩⟩
   case round =>
    clear H'
    (try clear c2); (try clear c5); (try clear c5b0); (try clear c6); (try clear c6b0); (try clear c7); (try clear c7b0); (try clear c8); (try clear c8b0); (try clear c30); (try clear hcz11_0); (try clear hcz11_1); (try clear hcz11_2); (try clear hcz11_3); (try clear hcz14_0); (try clear hcz14_1); (try clear hcz14_2); (try clear hcz14_3); (try clear hfz11_0); (try clear hfz11_1); (try clear hfz11_2); (try clear hfz11_3); (try clear hfz14_0); (try clear hfz14_1); (try clear hfz14_2); (try clear hfz14_3); (try clear hx173_0); (try clear hx173_1); (try clear hx173_2); (try clear hx173_3); (try clear hx175_0); (try clear hx175_1); (try clear hx175_2); (try clear hx175_3); (try clear p173); (try clear p175); (try clear q173); (try clear q175)
    obtain ⟨x11_2, rfl, HA, HK2, BK174, BK176, HB⟩ := hrel
    cases gk with
    | zero => exact absurd HA.out (by simp [spec_l05Same.l0])
    | succ k2 =>
     have H := HA.out
     clear HA
     simp only [spec_l05Same.l0] at H
     by_cases c31 : x11_2 < (((rd_T64 l0 a1).f3).length : Int)
     rotate_left
     ·
      rw [if_neg c31] at H
      have c31b0 : decide (x11_2 < (((rd_T64 l0 a1).f3).length : Int)) = false := decide_eq_false c31
      clear c31
      obtain rfl := Option.some.inj H
      obtain ⟨hcz44_0, hcz44_1, hcz44_2, hcz44_3, hfz44_0, hfz44_1, hfz44_2, hfz44_3⟩ := cl4 BK174.out
      go_wp2
      go_ret
      exact ⟨by first | rfl | (simp [errW_none, errW_some] <;> rfl) | (simp [*, errW_none, errW_some] <;> rfl), be w⟩
     rw [if_pos c31] at H
     have c31b0 : decide (x11_2 < (((rd_T64 l0 a1).f3).length : Int)) = true := decide_eq_true c31
     clear c31
     by_cases c32 : 0 ≤ x11_2
     rotate_left
     ·
      rw [if_neg c32] at H
      exact absurd H (by simp)
     rw [if_pos c32] at H
     have c32b0 : decide (0 ≤ x11_2) = true := decide_eq_true c32
     clear c32
     by_cases c33 : x11_2 < (((rd_T64 l2 a3).f3).length : Int)
     rotate_left
     ·
      rw [if_neg c33] at H
      exact absurd H (by simp)
     rw [if_pos c33] at H
     have c33b0 : decide (x11_2 < (((rd_T64 l2 a3).f3).length : Int)) = true := decide_eq_true c33
     clear c33
     obtain ⟨t179, A340, H⟩ := Option.bind_eq_some_iff.mp H
     try dsimp only at H
     have A34 := As.mk A340
     clear A340
     by_cases c35 : t179 = true
     rotate_left
     ·
      replace c35 := Bool.eq_false_iff.mpr c35
      subst c35
      rw [if_neg (show ¬ (false = true) by decide)] at H
      obtain rfl := Option.some.inj H
      have hnb40 := NB174_176.out
      have hnc40 := NB176_174.out
      obtain ⟨hcz41_0, hcz41_1, hcz41_2, hcz41_3, hfz41_0, hfz41_1, hfz41_2, hfz41_3⟩ := cl4 BK174.out
      try go_wp2
      replace BK174 := As.mk (blk_drew BK174.out)
      replace BK176 := As.mk (blk_drew BK176.out)
      replace HB := As.mk (below_drew1 HB.out)
      have p177 : 0 ≤ (x11_2 : Int) := of_decide_eq_true (by first | (with_reducible assumption) | assumption)
      have q177 : x11_2 < (((rd_T64 l0 a1).f3).length : Int) := of_decide_eq_true (by first | (with_reducible assumption) | assumption)
      obtain ⟨ad177, e177, hx177_0⟩ := Kd.at_int HR173_3.out x11_2 p177 q177
      have hw177_0 := hx177_0
      cases e177
      replace hx177_0 := ce HB.out hx177_0
      replace p177 := eq_true p177
      replace q177 := eq_true q177
      have p178 : 0 ≤ (x11_2 : Int) := of_decide_eq_true (by first | (with_reducible assumption) | assumption)
      have q178 : x11_2 < (((rd_T64 l2 a3).f3).length : Int) := of_decide_eq_true (by first | (with_reducible assumption) | assumption)
      obtain ⟨ad178, e178, hx178_0⟩ := Kd.at_int HR175_3.out x11_2 p178 q178
      have hw178_0 := hx178_0
      cases e178
      replace hx178_0 := ce HB.out hx178_0
      replace p178 := eq_true p178
      replace q178 := eq_true q178
      refine start_ (n := 14) (S := fun w' => w'.cell? ⟨gb174, 0, none⟩ = some (.int .i64 ((rd_T64 l0 a1).f0)) ∧ w'.cell? ⟨gb174, 1, none⟩ = some (.int .i64 ((rd_T64 l0 a1).f1)) ∧ w'.cell? ⟨gb174, 2, none⟩ = some (.string ((rd_T64 l0 a1).f2)) ∧ w'.cell? ⟨gb174, 3, none⟩ = some (.slice (some ad177) ((rd_T64 l0 a1).f3).length c173_3) ∧ w'.cell? ⟨gb176, 0, none⟩ = some (.int .i64 ((rd_T64 l2 a3).f0)) ∧ w'.cell? ⟨gb176, 1, none⟩ = some (.int .i64 ((rd_T64 l2 a3).f1)) ∧ w'.cell? ⟨gb176, 2, none⟩ = some (.string ((rd_T64 l2 a3).f2)) ∧ w'.cell? ⟨gb176, 3, none⟩ = some (.slice (some ad178) ((rd_T64 l2 a3).f3).length c175_3) ∧ w'.cell? (ad177.add (x11_2).toNat) = some (.int .i64 (rd ((rd_T64 l0 a1).f3) x11_2)) ∧ w'.cell? (ad178.add (x11_2).toNat) = some (.int .i64 (rd ((rd_T64 l2 a3).f3) x11_2))) (ds := []) #[O, O, O, O, O, O, O, O, O, O, O, O, O, O] (by kernel_rfl) rfl rfl ⟨(blk_cell BK174.out 0).trans rfl, (blk_cell BK174.out 1).trans rfl, (blk_cell BK174.out 2).trans rfl, (blk_cell BK174.out 3).trans rfl, (blk_cell BK176.out 0).trans rfl, (blk_cell BK176.out 1).trans rfl, (blk_cell BK176.out 2).trans rfl, (blk_cell BK176.out 3).trans rfl, (ce HB.out hw177_0 :), (ce HB.out hw178_0 :)⟩ (fun hHeld => ?_); refine with_tabW spec_l05Same.tab8 spec_l05Same.bits8 (fun HT_ HW_ => ?_)
      generalize wr.drew = w42 at BK174 BK176 HB hx177_0 hx178_0 hHeld ⊢
      refine pure_ (i := 0) (N := some 55) (v := ?_) (a' := ?_) #[I, O, O, O, O, O, O, O, O, O, O, O, O, O] rfl rfl (any_of HT_.out (by kernel_rfl)) (fun _ _ _ h => h) (Or.inl ⟨by rfl, ?_⟩) ?_ ?_
      rotate_left
      ·
       intro w'
       go_simp
       with_reducible rfl
      rotate_left
      ·
       simp only [pk, i64_w, i32_w]
       rfl
      refine pure_ (i := 1) (N := some 56) (v := ?_) (a' := ?_) #[I, I, O, O, O, O, O, O, O, O, O, O, O, O] rfl rfl (any_of HT_.out (by kernel_rfl)) (fun _ _ _ h => h) (Or.inl ⟨by rfl, ?_⟩) ?_ ?_
      rotate_left
      ·
       intro w'
       go_simp
       with_reducible rfl
      rotate_left
      ·
       simp only [pk, i64_w, i32_w]
       rfl
      refine pure_ (i := 3) (N := some 58) (v := ?_) (a' := ?_) #[I, I, O, I, O, O, O, O, O, O, O, O, O, O] rfl rfl (any_of HT_.out (by kernel_rfl)) (fun _ _ _ h => h) (Or.inl ⟨by rfl, ?_⟩) ?_ ?_
      rotate_left
      ·
       intro w'
       go_simp
       with_reducible rfl
      rotate_left
      ·
       simp only [pk, i64_w, i32_w]
       rfl
      refine pure_ (i := 6) (N := some 61) (v := ?_) (a' := ?_) #[I, I, O, I, O, O, I, O, O, O, O, O, O, O] rfl rfl (any_of HT_.out (by kernel_rfl)) (fun _ _ _ h => h) (Or.inl ⟨by rfl, ?_⟩) ?_ ?_
      rotate_left
      ·
       intro w'
       go_simp
       with_reducible rfl
      rotate_left
      ·
       simp only [pk, i64_w, i32_w]
       rfl
      refine pure_ (i := 7) (N := some 62) (v := ?_) (a' := ?_) #[I, I, O, I, O, O, I, I, O, O, O, O, O, O] rfl rfl (any_of HT_.out (by kernel_rfl)) (fun _ _ _ h => h) (Or.inl ⟨by rfl, ?_⟩) ?_ ?_
      rotate_left
      ·
       intro w'
       go_simp
       with_reducible rfl
      rotate_left
      ·
       simp only [pk, i64_w, i32_w]
       rfl
      refine pure_ (i := 9) (N := some 64) (v := ?_) (a' := ?_) #[I, I, O, I, O, O, I, I, O, I, O, O, O, O] rfl rfl (any_of HT_.out (by kernel_rfl)) (fun _ _ _ h => h) (Or.inl ⟨by rfl, ?_⟩) ?_ ?_
      rotate_left
      ·
       intro w'
       go_simp
       with_reducible rfl
      rotate_left
      ·
       simp only [pk, i64_w, i32_w]
       rfl
      refine take_ (i := 2) (N := some 57) (v := ?_) (a' := ?_) #[I, I, I, I, O, O, I, I, O, I, O, O, O, O] rfl rfl (take_ofW HT_.out HW_.out (by kernel_rfl)) (fun _ _ _ h => h) (Or.inl ⟨by rfl, ?_⟩) hHeld ?_ ?_
      rotate_left
      ·
       rintro w' ⟨s0, s1, s2, s3, s4, s5, s6, s7, s8, s9⟩
       go_simp
       with_reducible rfl
      rotate_left
      ·
       simp only [pk, i64_w, i32_w]
       rfl
      refine pure_ (i := 4) (N := some 59) (v := ?_) (a' := ?_) #[I, I, I, I, I, O, I, I, O, I, O, O, O, O] rfl rfl (any_of HT_.out (by kernel_rfl)) (fun _ _ _ h => h) (Or.inl ⟨by rfl, ?_⟩) ?_ ?_
      rotate_left
      ·
       intro w'
       go_simp
       with_reducible rfl
      rotate_left
      ·
       simp only [pk, i64_w, i32_w]
       rfl
      refine take_ (i := 5) (N := some 60) (v := ?_) (a' := ?_) #[I, I, I, I, I, I, I, I, O, I, O, O, O, O] rfl rfl (take_ofW HT_.out HW_.out (by kernel_rfl)) (fun _ _ _ h => h) (Or.inl ⟨by rfl, ?_⟩) hHeld ?_ ?_
      rotate_left
      ·
       rintro w' ⟨s0, s1, s2, s3, s4, s5, s6, s7, s8, s9⟩
       go_simp
       with_reducible rfl
      rotate_left
      ·
       simp only [pk, i64_w, i32_w]
       rfl
      refine take_ (i := 8) (N := some 63) (v := ?_) (a' := ?_) #[I, I, I, I, I, I, I, I, I, I, O, O, O, O] rfl rfl (take_ofW HT_.out HW_.out (by kernel_rfl)) (fun _ _ _ h => h) (Or.inl ⟨by rfl, ?_⟩) hHeld ?_ ?_
      rotate_left
      ·
       rintro w' ⟨s0, s1, s2, s3, s4, s5, s6, s7, s8, s9⟩
       go_simp
       with_reducible rfl
      rotate_left
      ·
       simp only [pk, i64_w, i32_w]
       rfl
      refine pure_ (i := 10) (N := some 65) (v := ?_) (a' := ?_) #[I, I, I, I, I, I, I, I, I, I, I, O, O, O] rfl rfl (any_of HT_.out (by kernel_rfl)) (fun _ _ _ h => h) (Or.inl ⟨by rfl, ?_⟩) ?_ ?_
      rotate_left
      ·
       intro w'
       go_simp
       with_reducible rfl
      rotate_left
      ·
       simp only [pk, i64_w, i32_w]
       rfl
      refine take_ (i := 11) (N := some 66) (v := ?_) (a' := ?_) #[I, I, I, I, I, I, I, I, I, I, I, I, O, O] rfl rfl (take_ofW HT_.out HW_.out (by kernel_rfl)) (fun _ _ _ h => h) (Or.inl ⟨by rfl, ?_⟩) hHeld ?_ ?_
      rotate_left
      ·
       rintro w' ⟨s0, s1, s2, s3, s4, s5, s6, s7, s8, s9⟩
       go_simp
       with_reducible rfl
      rotate_left
      ·
       simp only [pk, i64_w, i32_w]
       rfl
      refine one_ (i := 12) (N := some 67) #[I, I, I, I, I, I, I, I, I, I, I, I, I, O] rfl rfl (one_of HT_.out (by kernel_rfl)) (by decide) (fun K hK => ?_)
      refine goes_ Tryd.func68 (by kernel_rfl) rfl #[.slice (some ad173) l0.length c0, .int .i64 (rd ((rd_T64 l0 a1).f3) x11_2), .slice (some ad175) l2.length c2, .int .i64 (rd ((rd_T64 l2 a3).f3) x11_2)] (by rfl) rfl rfl (by (try simp only [lm]); first | done | rfl | (simp only [List.length_drop, List.length_take]; rfl)) ?_
      with_reducible refine (ih k2 (by have := HJ8.out; have := HK2.out; omega) _ _ l0 (rd ((rd_T64 l0 a1).f3) x11_2) _ _ l2 (rd ((rd_T64 l2 a3).f3) x11_2) false _ ?side1 ?side2 ?side3 ?side4 A34.out).mono ?_
      (case side1 => exact Kd.C_below HR0.out (be w))
      (case side2 => exact HC0.out)
      (case side3 => exact Kd.C_below HR2.out (be w))
      (case side4 => exact HC2.out)
      rintro e w43 ⟨rfl, hb⟩
      refine ⟨_, rfl, ?_⟩
      replace BK174 := As.mk (blk_below (bx BK174.out) hb)
      replace BK176 := As.mk (blk_below (bx BK176.out) hb)
      replace HB := As.mk (below_step (be w) hb)
      (try clear hb)
      (try clear hb2)
      (try clear hk)
      (try clear hi)
      refine hK.out _ _ ⟨(blk_cell BK174.out 0).trans rfl, (blk_cell BK174.out 1).trans rfl, (blk_cell BK174.out 2).trans rfl, (blk_cell BK174.out 3).trans rfl, (blk_cell BK176.out 0).trans rfl, (blk_cell BK176.out 1).trans rfl, (blk_cell BK176.out 2).trans rfl, (blk_cell BK176.out 3).trans rfl, (ce HB.out hw177_0 :), (ce HB.out hw178_0 :)⟩ (fun hHeld => ?_)
      clear hK K
      refine norm_ (a' := ?_) ?_ ?_
      rotate_left
      ·
       show Act.put _ (some 67) _ = _
       simp only [pk, i64_w, i32_w]
       rfl
      refine pure_ (i := 13) (N := some 68) (v := ?_) (a' := ?_) #[I, I, I, I, I, I, I, I, I, I, I, I, I, I] rfl rfl (any_of HT_.out (by kernel_rfl)) (fun _ _ _ h => h) (Or.inl ⟨by rfl, ?_⟩) ?_ ?_
      rotate_left
      ·
       intro w'
       go_simp
       with_reducible rfl
      rotate_left
      ·
       simp only [pk, i64_w, i32_w]
       rfl
      refine done_ (done_of HT_.out (by kernel_rfl)) ?_
      try go_wp2
      go_ret
      exact ⟨by first | rfl | (simp [errW_none, errW_some] <;> rfl) | (simp [*, errW_none, errW_some] <;> rfl), be w⟩
     subst c35
     rw [if_pos rfl] at H
     have H' := As.mk H
     clear H
     have hnb36 := NB174_176.out
     have hnc36 := NB176_174.out
     obtain ⟨hcz37_0, hcz37_1, hcz37_2, hcz37_3, hfz37_0, hfz37_1, hfz37_2, hfz37_3⟩ := cl4 BK174.out
     try go_wp2
     replace BK174 := As.mk (blk_drew BK174.out)
     replace BK176 := As.mk (blk_drew BK176.out)
     replace HB := As.mk (below_drew1 HB.out)
     have p177 : 0 ≤ (x11_2 : Int) := of_decide_eq_true (by first | (with_reducible assumption) | assumption)
     have q177 : x11_2 < (((rd_T64 l0 a1).f3).length : Int) := of_decide_eq_true (by first | (with_reducible assumption) | assumption)
     obtain ⟨ad177, e177, hx177_0⟩ := Kd.at_int HR173_3.out x11_2 p177 q177
     have hw177_0 := hx177_0
     cases e177
     replace hx177_0 := ce HB.out hx177_0
     replace p177 := eq_true p177
     replace q177 := eq_true q177
     have p178 : 0 ≤ (x11_2 : Int) := of_decide_eq_true (by first | (with_reducible assumption) | assumption)
     have q178 : x11_2 < (((rd_T64 l2 a3).f3).length : Int) := of_decide_eq_true (by first | (with_reducible assumption) | assumption)
     obtain ⟨ad178, e178, hx178_0⟩ := Kd.at_int HR175_3.out x11_2 p178 q178
     have hw178_0 := hx178_0
     cases e178
     replace hx178_0 := ce HB.out hx178_0
     replace p178 := eq_true p178
     replace q178 := eq_true q178
     refine start_ (n := 14) (S := fun w' => w'.cell? ⟨gb174, 0, none⟩ = some (.int .i64 ((rd_T64 l0 a1).f0)) ∧ w'.cell? ⟨gb174, 1, none⟩ = some (.int .i64 ((rd_T64 l0 a1).f1)) ∧ w'.cell? ⟨gb174, 2, none⟩ = some (.string ((rd_T64 l0 a1).f2)) ∧ w'.cell? ⟨gb174, 3, none⟩ = some (.slice (some ad177) ((rd_T64 l0 a1).f3).length c173_3) ∧ w'.cell? ⟨gb176, 0, none⟩ = some (.int .i64 ((rd_T64 l2 a3).f0)) ∧ w'.cell? ⟨gb176, 1, none⟩ = some (.int .i64 ((rd_T64 l2 a3).f1)) ∧ w'.cell? ⟨gb176, 2, none⟩ = some (.string ((rd_T64 l2 a3).f2)) ∧ w'.cell? ⟨gb176, 3, none⟩ = some (.slice (some ad178) ((rd_T64 l2 a3).f3).length c175_3) ∧ w'.cell? (ad177.add (x11_2).toNat) = some (.int .i64 (rd ((rd_T64 l0 a1).f3) x11_2)) ∧ w'.cell? (ad178.add (x11_2).toNat) = some (.int .i64 (rd ((rd_T64 l2 a3).f3) x11_2))) (ds := []) #[O, O, O, O, O, O, O, O, O, O, O, O, O, O] (by kernel_rfl) rfl rfl ⟨(blk_cell BK174.out 0).trans rfl, (blk_cell BK174.out 1).trans rfl, (blk_cell BK174.out 2).trans rfl, (blk_cell BK174.out 3).trans rfl, (blk_cell BK176.out 0).trans rfl, (blk_cell BK176.out 1).trans rfl, (blk_cell BK176.out 2).trans rfl, (blk_cell BK176.out 3).trans rfl, (ce HB.out hw177_0 :), (ce HB.out hw178_0 :)⟩ (fun hHeld => ?_); refine with_tabW spec_l05Same.tab8 spec_l05Same.bits8 (fun HT_ HW_ => ?_)
     generalize wr.drew = w38 at BK174 BK176 HB hx177_0 hx178_0 hHeld ⊢
     refine pure_ (i := 0) (N := some 55) (v := ?_) (a' := ?_) #[I, O, O, O, O, O, O, O, O, O, O, O, O, O] rfl rfl (any_of HT_.out (by kernel_rfl)) (fun _ _ _ h => h) (Or.inl ⟨by rfl, ?_⟩) ?_ ?_
     rotate_left
     ·
      intro w'
      go_simp
      with_reducible rfl
     rotate_left
     ·
      simp only [pk, i64_w, i32_w]
      rfl
     refine pure_ (i := 1) (N := some 56) (v := ?_) (a' := ?_) #[I, I, O, O, O, O, O, O, O, O, O, O, O, O] rfl rfl (any_of HT_.out (by kernel_rfl)) (fun _ _ _ h => h) (Or.inl ⟨by rfl, ?_⟩) ?_ ?_
     rotate_left
     ·
      intro w'
      go_simp
      with_reducible rfl
     rotate_left
     ·
      simp only [pk, i64_w, i32_w]
      rfl
     refine pure_ (i := 3) (N := some 58) (v := ?_) (a' := ?_) #[I, I, O, I, O, O, O, O, O, O, O, O, O, O] rfl rfl (any_of HT_.out (by kernel_rfl)) (fun _ _ _ h => h) (Or.inl ⟨by rfl, ?_⟩) ?_ ?_
     rotate_left
     ·
      intro w'
      go_simp
      with_reducible rfl
     rotate_left
     ·
      simp only [pk, i64_w, i32_w]
      rfl
     refine pure_ (i := 6) (N := some 61) (v := ?_) (a' := ?_) #[I, I, O, I, O, O, I, O, O, O, O, O, O, O] rfl rfl (any_of HT_.out (by kernel_rfl)) (fun _ _ _ h => h) (Or.inl ⟨by rfl, ?_⟩) ?_ ?_
     rotate_left
     ·
      intro w'
      go_simp
      with_reducible rfl
     rotate_left
     ·
      simp only [pk, i64_w, i32_w]
      rfl
     refine pure_ (i := 7) (N := some 62) (v := ?_) (a' := ?_) #[I, I, O, I, O, O, I, I, O, O, O, O, O, O] rfl rfl (any_of HT_.out (by kernel_rfl)) (fun _ _ _ h => h) (Or.inl ⟨by rfl, ?_⟩) ?_ ?_
     rotate_left
     ·
      intro w'
      go_simp
      with_reducible rfl
     rotate_left
     ·
      simp only [pk, i64_w, i32_w]
      rfl
     refine pure_ (i := 9) (N := some 64) (v := ?_) (a' := ?_) #[I, I, O, I, O, O, I, I, O, I, O, O, O, O] rfl rfl (any_of HT_.out (by kernel_rfl)) (fun _ _ _ h => h) (Or.inl ⟨by rfl, ?_⟩) ?_ ?_
     rotate_left
     ·
      intro w'
      go_simp
      with_reducible rfl
     rotate_left
     ·
      simp only [pk, i64_w, i32_w]
      rfl
     refine take_ (i := 2) (N := some 57) (v := ?_) (a' := ?_) #[I, I, I, I, O, O, I, I, O, I, O, O, O, O] rfl rfl (take_ofW HT_.out HW_.out (by kernel_rfl)) (fun _ _ _ h => h) (Or.inl ⟨by rfl, ?_⟩) hHeld ?_ ?_
     rotate_left
     ·
      rintro w' ⟨s0, s1, s2, s3, s4, s5, s6, s7, s8, s9⟩
      go_simp
      with_reducible rfl
     rotate_left
     ·
      simp only [pk, i64_w, i32_w]
      rfl
     refine pure_ (i := 4) (N := some 59) (v := ?_) (a' := ?_) #[I, I, I, I, I, O, I, I, O, I, O, O, O, O] rfl rfl (any_of HT_.out (by kernel_rfl)) (fun _ _ _ h => h) (Or.inl ⟨by rfl, ?_⟩) ?_ ?_
     rotate_left
     ·
      intro w'
      go_simp
      with_reducible rfl
     rotate_left
     ·
      simp only [pk, i64_w, i32_w]
      rfl
     refine take_ (i := 5) (N := some 60) (v := ?_) (a' := ?_) #[I, I, I, I, I, I, I, I, O, I, O, O, O, O] rfl rfl (take_ofW HT_.out HW_.out (by kernel_rfl)) (fun _ _ _ h => h) (Or.inl ⟨by rfl, ?_⟩) hHeld ?_ ?_
     rotate_left
     ·
      rintro w' ⟨s0, s1, s2, s3, s4, s5, s6, s7, s8, s9⟩
      go_simp
      with_reducible rfl
     rotate_left
     ·
      simp only [pk, i64_w, i32_w]
      rfl
     refine take_ (i := 8) (N := some 63) (v := ?_) (a' := ?_) #[I, I, I, I, I, I, I, I, I, I, O, O, O, O] rfl rfl (take_ofW HT_.out HW_.out (by kernel_rfl)) (fun _ _ _ h => h) (Or.inl ⟨by rfl, ?_⟩) hHeld ?_ ?_
     rotate_left
     ·
      rintro w' ⟨s0, s1, s2, s3, s4, s5, s6, s7, s8, s9⟩
      go_simp
      with_reducible rfl
     rotate_left
     ·
      simp only [pk, i64_w, i32_w]
      rfl
     refine pure_ (i := 10) (N := some 65) (v := ?_) (a' := ?_) #[I, I, I, I, I, I, I, I, I, I, I, O, O, O] rfl rfl (any_of HT_.out (by kernel_rfl)) (fun _ _ _ h => h) (Or.inl ⟨by rfl, ?_⟩) ?_ ?_
     rotate_left
     ·
      intro w'
      go_simp
      with_reducible rfl
     rotate_left
     ·
      simp only [pk, i64_w, i32_w]
      rfl
     refine take_ (i := 11) (N := some 66) (v := ?_) (a' := ?_) #[I, I, I, I, I, I, I, I, I, I, I, I, O, O] rfl rfl (take_ofW HT_.out HW_.out (by kernel_rfl)) (fun _ _ _ h => h) (Or.inl ⟨by rfl, ?_⟩) hHeld ?_ ?_
     rotate_left
     ·
      rintro w' ⟨s0, s1, s2, s3, s4, s5, s6, s7, s8, s9⟩
      go_simp
      with_reducible rfl
     rotate_left
     ·
      simp only [pk, i64_w, i32_w]
      rfl
     refine one_ (i := 12) (N := some 67) #[I, I, I, I, I, I, I, I, I, I, I, I, I, O] rfl rfl (one_of HT_.out (by kernel_rfl)) (by decide) (fun K hK => ?_)
     refine goes_ Tryd.func68 (by kernel_rfl) rfl #[.slice (some ad173) l0.length c0, .int .i64 (rd ((rd_T64 l0 a1).f3) x11_2), .slice (some ad175) l2.length c2, .int .i64 (rd ((rd_T64 l2 a3).f3) x11_2)] (by rfl) rfl rfl (by (try simp only [lm]); first | done | rfl | (simp only [List.length_drop, List.length_take]; rfl)) ?_
     with_reducible refine (ih k2 (by have := HJ8.out; have := HK2.out; omega) _ _ l0 (rd ((rd_T64 l0 a1).f3) x11_2) _ _ l2 (rd ((rd_T64 l2 a3).f3) x11_2) true _ ?side1 ?side2 ?side3 ?side4 A34.out).mono ?_
     (case side1 => exact Kd.C_below HR0.out (be w))
     (case side2 => exact HC0.out)
     (case side3 => exact Kd.C_below HR2.out (be w))
     (case side4 => exact HC2.out)
     rintro e w39 ⟨rfl, hb⟩
     refine ⟨_, rfl, ?_⟩
     replace BK174 := As.mk (blk_below (bx BK174.out) hb)
     replace BK176 := As.mk (blk_below (bx BK176.out) hb)
     replace HB := As.mk (below_step (be w) hb)
     (try clear hb)
     (try clear hb2)
     (try clear hk)
     (try clear hi)
     refine hK.out _ _ ⟨(blk_cell BK174.out 0).trans rfl, (blk_cell BK174.out 1).trans rfl, (blk_cell BK174.out 2).trans rfl, (blk_cell BK174.out 3).trans rfl, (blk_cell BK176.out 0).trans rfl, (blk_cell BK176.out 1).trans rfl, (blk_cell BK176.out 2).trans rfl, (blk_cell BK176.out 3).trans rfl, (ce HB.out hw177_0 :), (ce HB.out hw178_0 :)⟩ (fun hHeld => ?_)
     clear hK K
     refine norm_ (a' := ?_) ?_ ?_
     rotate_left
     ·
      show Act.put _ (some 67) _ = _
      simp only [pk, i64_w, i32_w]
      rfl
     refine pure_ (i := 13) (N := some 68) (v := ?_) (a' := ?_) #[I, I, I, I, I, I, I, I, I, I, I, I, I, I] rfl rfl (any_of HT_.out (by kernel_rfl)) (fun _ _ _ h => h) (Or.inl ⟨by rfl, ?_⟩) ?_ ?_
     rotate_left
     ·
      intro w'
      go_simp
      with_reducible rfl
     rotate_left
     ·
      simp only [pk, i64_w, i32_w]
      rfl
     refine done_ (done_of HT_.out (by kernel_rfl)) ?_
     try go_wp2
     go_roundg k2
     case measure => have := HJ8.out; have := HK2.out; omega
     case rel => exact ⟨(wrap64 (x11_2 + 1)), (by first | rfl | (simp; done) | (simp [*]; done)), H', ⟨by have := HJ8.out; have := HK2.out; omega⟩, ⟨bx BK174.out⟩, ⟨bx BK176.out⟩, ⟨be w⟩⟩
/-! ### spec_SameTree: function 30 -/
def spec_SameTree.f (k : Nat) (l0_0 : List (S64)) (l0_1 : List (S93)) (a1 : Int) (l2_0 : List (S64)) (l2_1 : List (S93)) (a3 : Int) : Option (Bool) := (spec_DeepOf.f k l0_0 a1).bind fun t182 => (if t182 > 0 then ((spec_DeepOf.f k l2_0 a3).bind fun t183 => (if t183 > 0 then ((spec_l05Same.f k l0_0 a1 l2_0 a3).bind fun t184 => (some t184)) else (some false))) else (some false))
theorem spec_SameTree.mono : ∀ a0 a1 a2 a3 a4 a5 k, LeO (spec_SameTree.f k a0 a1 a2 a3 a4 a5) (spec_SameTree.f (k + 1) a0 a1 a2 a3 a4 a5) := by
 intro a0 a1 a2 a3 a4 a5 k
 unfold spec_SameTree.f
 with_reducible repeat' first | exact spec_DeepOf.mono _ _ _ | exact spec_l05Same.mono _ _ _ _ _ | exact LeO.refl _ | exact LeO.none _ | refine LeO.ite ?_ ?_ | refine LeO.bind ?_ (fun _ => ?_)
set_option maxHeartbeats 8000000 in
set_option maxRecDepth 100000 in
theorem spec_SameTree.calls (k : Nat) (A0_0 : Option Addr) (c0_0 : Nat) (l0_0 : List (S64)) (A0_1 : Option Addr) (c0_1 : Nat) (l0_1 : List (S93)) (a1 : Int) (A2_0 : Option Addr) (c2_0 : Nat) (l2_0 : List (S64)) (A2_1 : Option Addr) (c2_1 : Nat) (l2_1 : List (S93)) (a3 : Int) (r : Bool) (w : World) (hr0_0 : Kd.C k64 w A0_0 l0_0.length l0_0) (hc0_0 : l0_0.length ≤ c0_0) (hr0_1 : Kd.C k93 w A0_1 l0_1.length l0_1) (hc0_1 : l0_1.length ≤ c0_1) (hr2_0 : Kd.C k64 w A2_0 l2_0.length l2_0) (hc2_0 : l2_0.length ≤ c2_0) (hr2_1 : Kd.C k93 w A2_1 l2_1.length l2_1) (hc2_1 : l2_1.length ≤ c2_1) (h : spec_SameTree.f k l0_0 l0_1 a1 l2_0 l2_1 a3 = some r) :
  Calls Tryd.prog 30 #[.agg #[.slice A0_0 l0_0.length c0_0, .slice A0_1 l0_1.length c0_1], .int .i64 a1, .agg #[.slice A2_0 l2_0.length c2_0, .slice A2_1 l2_1.length c2_1], .int .i64 a3] w fun e w' => e = .returned (.bool r) ∧ Below w.heap.size w w' := by
 have hu52 := Tryd.underlying52
 have HR0_0 := As.mk hr0_0
 have HC0_0 := As.mk hc0_0
 clear hr0_0 hc0_0
 have HR0_1 := As.mk hr0_1
 have HC0_1 := As.mk hc0_1
 clear hr0_1 hc0_1
 have HR2_0 := As.mk hr2_0
 have HC2_0 := As.mk hc2_0
 clear hr2_0 hc2_0
 have HR2_1 := As.mk hr2_1
 have HC2_1 := As.mk hc2_1
 clear hr2_1 hc2_1
 have HB := As.mk (Below.refl w.heap.size w)
 have H : ((spec_DeepOf.f k l0_0 a1).bind fun t182 => (if t182 > 0 then ((spec_DeepOf.f k l2_0 a3).bind fun t183 => (if t183 > 0 then ((spec_l05Same.f k l0_0 a1 l2_0 a3).bind fun t184 => (some t184)) else (some false))) else (some false))) = some r := h
 clear h
 obtain ⟨t182, A50, H⟩ := Option.bind_eq_some_iff.mp H
 try dsimp only at H
 have A5 := As.mk A50
 clear A50
 by_cases c6 : t182 > 0
 rotate_left
 ·
  rw [if_neg c6] at H
  have c6b0 : decide (0 < t182) = false := decide_eq_false c6
  clear c6
  obtain rfl := Option.some.inj H
  go_enter Tryd.func30, Tryd.ntmps30
  go_wp2_with (first | ((with_reducible refine gate_dst (N := 4) rfl ?_); refine box_event ?hg (N := 4) ?hd (cs := #[.slice A0_0 l0_0.length c0_0, .slice A0_1 l0_1.length c0_1]) (t := 52) ?hr ?_; (case hd => rfl); (case hg => rfl); (case hr => first | (go_simp; done) | (go_simp; rfl)); intro gb180 hg w27 hbox hb; have BK180 := As.mk (hbox); have GW180 := As.mk (gs w hg); have GE180 := As.mk (gs w hg); replace HB := As.mk (below_step (be w) hb); clear hb hbox hg) | ((with_reducible refine gate_dst (N := 6) rfl ?_); refine box_event ?hg (N := 6) ?hd (cs := #[.slice A2_0 l2_0.length c2_0, .slice A2_1 l2_1.length c2_1]) (t := 52) ?hr ?_; (case hd => rfl); (case hg => rfl); (case hr => first | (go_simp; done) | (go_simp; rfl)); intro gb181 hg w28 hbox hb; have BK181 := As.mk (hbox); have GW181 := As.mk (gs w hg); have GE181 := As.mk (gs w hg); replace HB := As.mk (below_step (be w) hb); have NB180_181 := As.mk (nl hg (bx BK180.out)); have NB181_180 := As.mk (ng hg (bx BK180.out)); replace BK180 := As.mk (blk_below (bx BK180.out) hb); clear hb hbox hg; obtain ⟨hcz29_0, hcz29_1, hfz29_0, hfz29_1⟩ := cl2 BK180.out) | ((with_reducible refine gate_callee (f := 17) rfl ?_); refine goesL_ (some 12) rfl rfl Tryd.func17 (by kernel_rfl) rfl #[.slice A0_0 l0_0.length c0_0, .int .i64 a1] rfl (by (try simp only [lm]); first | done | rfl | (simp only [List.length_drop, List.length_take]; rfl)) ?_; (with_reducible refine (spec_DeepOf.calls k _ _ l0_0 a1 t182 _ ?side1 ?side2 A5.out).mono ?_); (case side1 => exact Kd.C_below HR0_0.out (be w)); (case side2 => exact HC0_0.out); rintro e w30 ⟨rfl, hb⟩; refine ⟨_, rfl, ?_⟩; replace HB := As.mk (below_step (be w) hb); (try clear hb); (try clear hb2); (try clear hk); (try clear hi)))
  go_ret
  exact ⟨by first | rfl | (simp [errW_none, errW_some] <;> rfl) | (simp [*, errW_none, errW_some] <;> rfl), be w⟩

 rw [if_pos c6] at H
 have c6b0 : decide (0 < t182) = true := decide_eq_true c6
 clear c6
 obtain ⟨t183, A70, H⟩ := Option.bind_eq_some_iff.mp H
 try dsimp only at H
 have A7 := As.mk A70
 clear A70
 by_cases c8 : t183 > 0
 rotate_left
 ·
  rw [if_neg c8] at H
  have c8b0 : decide (0 < t183) = false := decide_eq_false c8
  clear c8
  obtain rfl := Option.some.inj H
  go_enter Tryd.func30, Tryd.ntmps30
  go_wp2_with (first | ((with_reducible refine gate_dst (N := 4) rfl ?_); refine box_event ?hg (N := 4) ?hd (cs := #[.slice A0_0 l0_0.length c0_0, .slice A0_1 l0_1.length c0_1]) (t := 52) ?hr ?_; (case hd => rfl); (case hg => rfl); (case hr => first | (go_simp; done) | (go_simp; rfl)); intro gb180 hg w20 hbox hb; have BK180 := As.mk (hbox); have GW180 := As.mk (gs w hg); have GE180 := As.mk (gs w hg); replace HB := As.mk (below_step (be w) hb); clear hb hbox hg) | ((with_reducible refine gate_dst (N := 6) rfl ?_); refine box_event ?hg (N := 6) ?hd (cs := #[.slice A2_0 l2_0.length c2_0, .slice A2_1 l2_1.length c2_1]) (t := 52) ?hr ?_; (case hd => rfl); (case hg => rfl); (case hr => first | (go_simp; done) | (go_simp; rfl)); intro gb181 hg w21 hbox hb; have BK181 := As.mk (hbox); have GW181 := As.mk (gs w hg); have GE181 := As.mk (gs w hg); replace HB := As.mk (below_step (be w) hb); have NB180_181 := As.mk (nl hg (bx BK180.out)); have NB181_180 := As.mk (ng hg (bx BK180.out)); replace BK180 := As.mk (blk_below (bx BK180.out) hb); clear hb hbox hg; have hnb22 := NB180_181.out; have hnc22 := NB181_180.out; obtain ⟨hcz23_0, hcz23_1, hfz23_0, hfz23_1⟩ := cl2 BK180.out) | ((with_reducible refine gate_callee (f := 17) rfl ?_); refine goesL_ (some 12) rfl rfl Tryd.func17 (by kernel_rfl) rfl #[.slice A0_0 l0_0.length c0_0, .int .i64 a1] rfl (by (try simp only [lm]); first | done | rfl | (simp only [List.length_drop, List.length_take]; rfl)) ?_; (with_reducible refine (spec_DeepOf.calls k _ _ l0_0 a1 t182 _ ?side1 ?side2 A5.out).mono ?_); (case side1 => exact Kd.C_below HR0_0.out (be w)); (case side2 => exact HC0_0.out); rintro e w24 ⟨rfl, hb⟩; refine ⟨_, rfl, ?_⟩; replace BK181 := As.mk (blk_below (bx BK181.out) hb); replace HB := As.mk (below_step (be w) hb); (try clear hb); (try clear hb2); (try clear hk); (try clear hi); obtain ⟨hcz25_0, hcz25_1, hfz25_0, hfz25_1⟩ := cl2 BK181.out) | (go_at_call 17; (with_reducible refine (spec_DeepOf.calls k _ _ l2_0 a3 t183 _ ?side1 ?side2 A7.out).mono ?_); (case side1 => exact Kd.C_below HR2_0.out (be w)); (case side2 => exact HC2_0.out); rintro e w26 ⟨rfl, hb⟩; replace HB := As.mk (below_step (be w) hb); (try clear hb); (try clear hb2); (try clear hk); (try clear hi)))
  go_ret
  exact ⟨by first | rfl | (simp [errW_none, errW_some] <;> rfl) | (simp [*, errW_none, errW_some] <;> rfl), be w⟩
 rw [if_pos c8] at H
 have c8b0 : decide (0 < t183) = true := decide_eq_true c8
 clear c8
 obtain ⟨t184, A90, H⟩ := Option.bind_eq_some_iff.mp H
 try dsimp only at H
 have A9 := As.mk A90
 clear A90
 obtain rfl := Option.some.inj H
 go_enter Tryd.func30, Tryd.ntmps30
 go_wp2_with (first | ((with_reducible refine gate_dst (N := 4) rfl ?_); refine box_event ?hg (N := 4) ?hd (cs := #[.slice A0_0 l0_0.length c0_0, .slice A0_1 l0_1.length c0_1]) (t := 52) ?hr ?_; (case hd => rfl); (case hg => rfl); (case hr => first | (go_simp; done) | (go_simp; rfl)); intro gb180 hg w10 hbox hb; have BK180 := As.mk (hbox); have GW180 := As.mk (gs w hg); have GE180 := As.mk (gs w hg); replace HB := As.mk (below_step (be w) hb); clear hb hbox hg) | ((with_reducible refine gate_dst (N := 6) rfl ?_); refine box_event ?hg (N := 6) ?hd (cs := #[.slice A2_0 l2_0.length c2_0, .slice A2_1 l2_1.length c2_1]) (t := 52) ?hr ?_; (case hd => rfl); (case hg => rfl); (case hr => first | (go_simp; done) | (go_simp; rfl)); intro gb181 hg w11 hbox hb; have BK181 := As.mk (hbox); have GW181 := As.mk (gs w hg); have GE181 := As.mk (gs w hg); replace HB := As.mk (below_step (be w) hb); have NB180_181 := As.mk (nl hg (bx BK180.out)); have NB181_180 := As.mk (ng hg (bx BK180.out)); replace BK180 := As.mk (blk_below (bx BK180.out) hb); clear hb hbox hg; have hnb12 := NB180_181.out; have hnc12 := NB181_180.out; obtain ⟨hcz13_0, hcz13_1, hfz13_0, hfz13_1⟩ := cl2 BK180.out) | ((with_reducible refine gate_callee (f := 17) rfl ?_); refine goesL_ (some 12) rfl rfl Tryd.func17 (by kernel_rfl) rfl #[.slice A0_0 l0_0.length c0_0, .int .i64 a1] rfl (by (try simp only [lm]); first | done | rfl | (simp only [List.length_drop, List.length_take]; rfl)) ?_; (with_reducible refine (spec_DeepOf.calls k _ _ l0_0 a1 t182 _ ?side1 ?side2 A5.out).mono ?_); (case side1 => exact Kd.C_below HR0_0.out (be w)); (case side2 => exact HC0_0.out); rintro e w14 ⟨rfl, hb⟩; refine ⟨_, rfl, ?_⟩; replace BK180 := As.mk (blk_below (bx BK180.out) hb); replace BK181 := As.mk (blk_below (bx BK181.out) hb); replace HB := As.mk (below_step (be w) hb); (try clear hb); (try clear hb2); (try clear hk); (try clear hi); obtain ⟨hcz15_0, hcz15_1, hfz15_0, hfz15_1⟩ := cl2 BK181.out) | (go_at_call 17; (with_reducible refine (spec_DeepOf.calls k _ _ l2_0 a3 t183 _ ?side1 ?side2 A7.out).mono ?_); (case side1 => exact Kd.C_below HR2_0.out (be w)); (case side2 => exact HC2_0.out); rintro e w16 ⟨rfl, hb⟩; replace BK180 := As.mk (blk_below (bx BK180.out) hb); replace BK181 := As.mk (blk_below (bx BK181.out) hb); replace HB := As.mk (below_step (be w) hb); (try clear hb); (try clear hb2); (try clear hk); (try clear hi); obtain ⟨hcz17_0, hcz17_1, hfz17_0, hfz17_1⟩ := cl2 BK180.out; obtain ⟨hcz18_0, hcz18_1, hfz18_0, hfz18_1⟩ := cl2 BK181.out) | (go_at_call 68; (with_reducible refine (spec_l05Same.calls k _ _ l0_0 a1 _ _ l2_0 a3 t184 _ ?side1 ?side2 ?side3 ?side4 A9.out).mono ?_); (case side1 => exact Kd.C_below HR0_0.out (be w)); (case side2 => exact HC0_0.out); (case side3 => exact Kd.C_below HR2_0.out (be w)); (case side4 => exact HC2_0.out); rintro e w19 ⟨rfl, hb⟩; replace HB := As.mk (below_step (be w) hb); (try clear hb); (try clear hb2); (try clear hk); (try clear hi)))
 go_ret
 exact ⟨by first | rfl | (simp [errW_none, errW_some] <;> rfl) | (simp [*, errW_none, errW_some] <;> rfl), be w⟩
/-! ### laws_toIntS: function 83 -/
def laws_toIntS.l0 : Nat → List Int → List Int → Int → Option (List Int)
 | 0, _, _, _ => none
 | k + 1, x0, x3, x4 => if x4 < (x0.length : Int) then (if 0 ≤ x4 then (if x4 < (x3.length : Int) then (laws_toIntS.l0 k x0 (x3.set (x4 : Int).toNat (rd x0 x4)) (wrap64 (x4 + 1))) else (none)) else (none)) else (some x3)
def laws_toIntS.f (k : Nat) (l0 : List Int) : Option (List Int) := if 0 ≤ (l0.length : Int) then (if ((l0.length : Int) : Int).toNat ≤ 35184372088832 then (laws_toIntS.l0 k l0 (List.replicate ((l0.length : Int) : Int).toNat 0) 0) else (none)) else (none)
theorem laws_toIntS.mono_l : ∀ k, (∀ y0 y1 y2, LeO (laws_toIntS.l0 k y0 y1 y2) (laws_toIntS.l0 (k + 1) y0 y1 y2))
 | 0 => fun _ _ _ r h => by simp [laws_toIntS.l0] at h
 | k + 1 => by
  have ih0 := laws_toIntS.mono_l k
  ·
   intro y0 y1 y2
   unfold laws_toIntS.l0
   with_reducible repeat' first | exact ih0 _ _ _ | exact LeO.refl _ | exact LeO.none _ | refine LeO.ite ?_ ?_ | refine LeO.bind ?_ (fun _ => ?_)
theorem laws_toIntS.mono : ∀ a0 k, LeO (laws_toIntS.f k a0) (laws_toIntS.f (k + 1) a0) := by
 intro a0 k
 have ih0 := laws_toIntS.mono_l k
 unfold laws_toIntS.f
 with_reducible repeat' first | exact ih0 _ _ _ | exact LeO.refl _ | exact LeO.none _ | refine LeO.ite ?_ ?_ | refine LeO.bind ?_ (fun _ => ?_)
set_option maxHeartbeats 8000000 in
set_option maxRecDepth 100000 in
theorem laws_toIntS.calls (k : Nat) (A0 : Option Addr) (c0 : Nat) (l0 : List Int) (r : List Int) (w : World) (hr0 : Kd.C (Kd.int .i64) w A0 l0.length l0) (hc0 : l0.length ≤ c0) (h : laws_toIntS.f k l0 = some r) :
  Calls Tryd.prog 83 #[.slice A0 l0.length c0] w fun e w' => ∃ v0_ : Value, e = .returned (v0_) ∧ Kd.R (Kd.int .i64) 3 w' w.heap.size (fun _ => True) v0_ r ∧ Below w.heap.size w w' := by
 have HR0 := As.mk hr0
 have HC0 := As.mk hc0
 clear hr0 hc0
 have HB := As.mk (Below.refl w.heap.size w)
 have H : (if 0 ≤ (l0.length : Int) then (if ((l0.length : Int) : Int).toNat ≤ 35184372088832 then (laws_toIntS.l0 k l0 (List.replicate ((l0.length : Int) : Int).toNat 0) 0) else (none)) else (none)) = some r := h
 clear h
 by_cases c2 : 0 ≤ (l0.length : Int)
 rotate_left
 ·
  rw [if_neg c2] at H
  exact absurd H (by simp)

 rw [if_pos c2] at H
 have c2b0 := eq_true c2
 have c2b1 : decide (0 ≤ (l0.length : Int)) = true := decide_eq_true c2
 clear c2
 by_cases c3 : ((l0.length : Int) : Int).toNat ≤ 35184372088832
 rotate_left
 ·
  rw [if_neg c3] at H
  exact absurd H (by simp)
 rw [if_pos c3] at H
 have c3b0 := eq_true c3
 have c3b1 : decide (((l0.length : Int) : Int).toNat ≤ 35184372088832) = true := decide_eq_true c3
 clear c3
 obtain ⟨y185, hy185⟩ : ∃ y_ : List Int, y_ = (List.replicate ((l0.length : Int) : Int).toNat 0) := ⟨_, rfl⟩
 replace H : (laws_toIntS.l0 k l0 y185 0) = some r := by first | (rw [hy185]; with_reducible exact H) | (have H2_ := (Option.bind_some _ _).symm.trans H; rw [hy185]; with_reducible exact H2_) | (have H2_ := (Option.bind_some _ _).symm.trans H; with_reducible exact H2_) | with_reducible exact H | (rw [hy185]; exact H) | exact H
 have Ny185 := As.mk hy185
 clear hy185
 have H' := As.mk H
 clear H
 go_enter Tryd.func83, Tryd.ntmps83
 go_wp2_with (first | ((with_reducible refine gate_dst (N := 7) rfl ?_); refine Kd.R_make (Kd.int .i64) _ 3 rfl (N := 7) rfl 60 _ _ rfl (l0.length : Int) rfl rfl Tryd.underlying60 (.int .i64 0) 8 info3 rfl (by decide) (by omega) 0 (ok := fun _ => True) (okp := fun _ => True) rfl (fun _ hk => hk) trivial (of_decide_eq_true (by first | (with_reducible assumption) | assumption)) (Nat.le_trans (Nat.mul_le_mul_right _ (of_decide_eq_true (by first | (with_reducible assumption) | assumption) : (l0.length : Int).toNat ≤ 35184372088832)) (by omega)) (Below.refl _ _) (Nat.le_refl _) ?_; intro v186 w4 ho5 hb hg_ hnew_; clear hg_ hnew_; (first | rw [← Ny185.out] at ho5 | (simp only [Int.reduceToNat] at ho5; rw [← Ny185.out] at ho5)); have HO187 := As.mk (Kd.R_lower ho5 (below_size (be w))); replace HB := As.mk (below_step (be w) hb); clear hb ho5))
 go_loopg [4] k (fun kq v4 w' => ∃ (x3_1 : List Int) (x4_1 : Int), v4 = .int .i64 x4_1 ∧ As (laws_toIntS.l0 kq l0 x3_1 x4_1 = some r) ∧ As (kq ≤ k) ∧ As (Kd.R (Kd.int .i64) 3 w' w.heap.size (fun _ => True) v186 x3_1) ∧ As (Below w.heap.size w w'))
 case atStart => exact ⟨(y185), (0), (by first | rfl | (simp; done) | (simp [*]; done)), H', ⟨Nat.le_refl _⟩, ⟨by (with_reducible repeat (first | apply Kd.R_alloc | apply Kd.R_drewN | apply Kd.R_drew)); exact HO187.out⟩, ⟨be w⟩⟩
 case round =>
  clear H'
  (try clear c2); (try clear c2b0); (try clear c2b1); (try clear c3); (try clear c3b0); (try clear c3b1)
  obtain ⟨x3_1, x4_1, rfl, HA, HK1, HO_3, HB⟩ := hrel
  cases gk with
  | zero => exact absurd HA.out (by simp [laws_toIntS.l0])
  | succ k1 =>
   have H := HA.out
   clear HA
   simp only [laws_toIntS.l0] at H
   by_cases c6 : x4_1 < (l0.length : Int)
   rotate_left
   ·
    rw [if_neg c6] at H
    have c6b0 : decide (x4_1 < (l0.length : Int)) = false := decide_eq_false c6
    clear c6
    obtain rfl := Option.some.inj H
    go_wp2
    go_ret
    exact ⟨_, by first | rfl | (simp [errW_none, errW_some] <;> rfl) | (simp [*, errW_none, errW_some] <;> rfl), by (with_reducible repeat (first | apply Kd.R_alloc | apply Kd.R_drewN | apply Kd.R_drew)); exact HO_3.out, be w⟩
   rw [if_pos c6] at H
   have c6b0 : decide (x4_1 < (l0.length : Int)) = true := decide_eq_true c6
   clear c6
   by_cases c7 : 0 ≤ x4_1
   rotate_left
   ·
    rw [if_neg c7] at H
    exact absurd H (by simp)
   rw [if_pos c7] at H
   have c7b0 : decide (0 ≤ x4_1) = true := decide_eq_true c7
   clear c7
   by_cases c8 : x4_1 < (x3_1.length : Int)
   rotate_left
   ·
    rw [if_neg c8] at H
    exact absurd H (by simp)
   rw [if_pos c8] at H
   have c8b0 : decide (x4_1 < (x3_1.length : Int)) = true := decide_eq_true c8
   clear c8
   obtain ⟨y189, hy189⟩ : ∃ y_ : List Int, y_ = (x3_1.set (x4_1 : Int).toNat (rd l0 x4_1)) := ⟨_, rfl⟩
   replace H : (laws_toIntS.l0 k1 l0 y189 (wrap64 (x4_1 + 1))) = some r := by first | (rw [hy189]; with_reducible exact H) | (have H2_ := (Option.bind_some _ _).symm.trans H; rw [hy189]; with_reducible exact H2_) | (have H2_ := (Option.bind_some _ _).symm.trans H; with_reducible exact H2_) | with_reducible exact H | (rw [hy189]; exact H) | exact H
   have Ny189 := As.mk hy189
   clear hy189
   have H' := As.mk H
   clear H
   have p188 : 0 ≤ (x4_1 : Int) := of_decide_eq_true (by first | (with_reducible assumption) | assumption)
   have q188 : x4_1 < (l0.length : Int) := of_decide_eq_true (by first | (with_reducible assumption) | assumption)
   obtain ⟨ad188, e188, hx188_0⟩ := Kd.at_int HR0.out x4_1 p188 q188
   cases e188
   replace hx188_0 := ce HB.out hx188_0
   replace p188 := eq_true p188
   replace q188 := eq_true q188
   have p9 : 0 ≤ (x4_1 : Int) := of_decide_eq_true (by first | (with_reducible assumption) | assumption)
   have q9 : (x4_1 : Int) < ((x3_1.length : Int) : Int) := of_decide_eq_true (by first | (with_reducible assumption) | assumption)
   obtain ⟨go9, co9, eo9, gb9, gl9, cl9, HG9⟩ := Kd.R_form HO_3.out (by omega)
   (first | cases eo9 | (injection eo9 with ea_ en_ ec_; (first | subst ea_ | (injection ea_ with ea_; subst ea_)); subst ec_; clear en_))
   have GB9 := As.mk gb9
   have GG9 := As.mk HG9
   clear gb9 gl9 HG9
   obtain ⟨hx9_0, hf9_0⟩ := Kd.R_celln 0 HO_3.out (x4_1 : Int) p9 q9
   replace p9 := eq_true p9
   replace q9 := eq_true q9
   have HP10 := Kd.R_putg HO_3.out (x4_1 : Int) (rd l0 x4_1)
   go_wp2_with (first | ((with_reducible refine gate_store (t := 3) (p := 20) rfl ?_); refine store_event (t := 3) (p := 20) (v := ?vo_w11) (w1 := (wr.setCell ⟨go9, (x4_1 : Int).toNat, none⟩ (.int .i64 (rd l0 x4_1)))) ?hg ?ho ?hn ?hr ?_; (case ho => rfl); (case hg => rfl); (case hn => rfl); (case hr => first | (go_simp; done) | (go_simp; rfl)); intro w11 hw; have hg : wr.grownBy w11 (some go9) := (by rw [hw]; exact HP10.2); have hp_ : Kd.R (Kd.int .i64) 3 w11 w.heap.size (fun _ => True) (.slice (some ⟨go9, 0, none⟩) x3_1.length co9) y189 := (by rw [hw, Ny189.out]; exact HP10.1); clear HP10; replace HO_3 := As.mk (hp_); replace HB := As.mk ((by rw [hw]; exact below_set (HB.out) GB9.out : Below w.heap.size w w11)); clear hg hw hp_))
   go_roundg k1
   case measure => have := HK1.out; omega
   case rel => exact ⟨(y189), (wrap64 (x4_1 + 1)), (by first | rfl | (simp; done) | (simp [*]; done)), H', ⟨by have := HK1.out; omega⟩, ⟨by (with_reducible repeat (first | apply Kd.R_alloc | apply Kd.R_drewN | apply Kd.R_drew)); exact HO_3.out⟩, ⟨be w⟩⟩
/-! ### laws_toNode: function 44 -/
def laws_toNode.f (k : Nat) (a0_0 : Int) (a0_1 : Int) (a0_2 : ByteArray) (l0_3 : List Int) : Option (Int × Int × ByteArray × List Int) := (laws_toIntS.f k l0_3).bind fun t193 => (some (a0_0, a0_1, a0_2, t193))
theorem laws_toNode.mono : ∀ a0 a1 a2 a3 k, LeO (laws_toNode.f k a0 a1 a2 a3) (laws_toNode.f (k + 1) a0 a1 a2 a3) := by
 intro a0 a1 a2 a3 k
 unfold laws_toNode.f
 with_reducible repeat' first | exact laws_toIntS.mono _ _ | exact LeO.refl _ | exact LeO.none _ | refine LeO.ite ?_ ?_ | refine LeO.bind ?_ (fun _ => ?_)
set_option maxHeartbeats 8000000 in
set_option maxRecDepth 100000 in
theorem laws_toNode.calls (k : Nat) (a0_0 : Int) (a0_1 : Int) (a0_2 : ByteArray) (A0_3 : Option Addr) (c0_3 : Nat) (l0_3 : List Int) (r1 : Int) (r2 : Int) (r3 : ByteArray) (r4 : List Int) (w : World) (hr0_3 : Kd.C (Kd.int .i64) w A0_3 l0_3.length l0_3) (hc0_3 : l0_3.length ≤ c0_3) (h : laws_toNode.f k a0_0 a0_1 a0_2 l0_3 = some (r1, r2, r3, r4)) :
  Calls Tryd.prog 44 #[.agg #[.int .i64 a0_0, .int .i64 a0_1, .string a0_2, .slice A0_3 l0_3.length c0_3]] w fun e w' => ∃ v3_ : Value, e = .returned (.agg #[.int .i64 r1, .int .i64 r2, .string r3, v3_]) ∧ Kd.R (Kd.int .i64) 3 w' w.heap.size (fun _ => True) v3_ r4 ∧ Below w.heap.size w w' := by
 have hu62 := Tryd.underlying62
 have hu64 := Tryd.underlying64
 have HR0_3 := As.mk hr0_3
 have HC0_3 := As.mk hc0_3
 clear hr0_3 hc0_3
 have HB := As.mk (Below.refl w.heap.size w)
 have H : ((laws_toIntS.f k l0_3).bind fun t193 => (some (a0_0, a0_1, a0_2, t193))) = some (r1, r2, r3, r4) := h
 clear h
 obtain ⟨t193, A20, H⟩ := Option.bind_eq_some_iff.mp H
 try dsimp only at H
 have A2 := As.mk A20
 clear A20
 simp only [Option.some.injEq, Prod.mk.injEq] at H
 obtain ⟨rfl, rfl, rfl, rfl⟩ := H
 go_enter Tryd.func44, Tryd.ntmps44
 go_wp2_with (first | ((with_reducible refine gate_dst (N := 1) rfl ?_); refine box_event ?hg (N := 1) ?hd (cs := #[.int .i64 a0_0, .int .i64 a0_1, .string a0_2, .slice A0_3 l0_3.length c0_3]) (t := 62) ?hr ?_; (case hd => rfl); (case hg => rfl); (case hr => first | (go_simp; done) | (go_simp; rfl)); intro gb190 hg w3 hbox hb; have BK190 := As.mk (hbox); have GW190 := As.mk (gs w hg); have GE190 := As.mk (gs w hg); replace HB := As.mk (below_step (be w) hb); clear hb hbox hg) | ((with_reducible refine gate_dst (N := 2) rfl ?_); refine box_event ?hg (N := 2) ?hd (cs := #[.int .i64 0, .int .i64 0, .string (⟨#[]⟩ : ByteArray), .slice none 0 0]) (t := 64) ?hr ?_; (case hd => rfl); (case hg => rfl); (case hr => first | (go_simp; done) | (go_simp; rfl)); intro gb191 hg w4 hbox hb; have BK191 := As.mk (hbox); have GW191 := As.mk (gs w hg); have GE191 := As.mk (gs w hg); replace HB := As.mk (below_step (be w) hb); have NB190_191 := As.mk (nl hg (bx BK190.out)); have NB191_190 := As.mk (ng hg (bx BK190.out)); replace BK190 := As.mk (blk_below (bx BK190.out) hb); clear hb hbox hg) | ((with_reducible refine gate_dst (N := 3) rfl ?_); refine box_event ?hg (N := 3) ?hd (cs := #[.int .i64 0, .int .i64 0, .string (⟨#[]⟩ : ByteArray), .slice none 0 0]) (t := 64) ?hr ?_; (case hd => rfl); (case hg => rfl); (case hr => first | (go_simp; done) | (go_simp; rfl)); intro gb192 hg w5 hbox hb; have BK192 := As.mk (hbox); have GW192 := As.mk (gs w hg); have GE192 := As.mk (gs w hg); replace HB := As.mk (below_step (be w) hb); have NB190_192 := As.mk (nl hg (bx BK190.out)); have NB192_190 := As.mk (ng hg (bx BK190.out)); replace BK190 := As.mk (blk_below (bx BK190.out) hb); have NB191_192 := As.mk (nl hg (bx BK191.out)); have NB192_191 := As.mk (ng hg (bx BK191.out)); replace BK191 := As.mk (blk_below (bx BK191.out) hb); clear hb hbox hg; have hnb6 := NB190_191.out; have hnc6 := NB191_190.out; have hnb7 := NB190_192.out; have hnc7 := NB192_190.out; obtain ⟨hcz8_0, hcz8_1, hcz8_2, hcz8_3, hfz8_0, hfz8_1, hfz8_2, hfz8_3⟩ := cl4 BK190.out; have hnb9 := NB192_191.out; have hnc9 := NB191_192.out; obtain ⟨hcz10_0, hcz10_1, hcz10_2, hcz10_3, hfz10_0, hfz10_1, hfz10_2, hfz10_3⟩ := cl4 BK192.out) | ((with_reducible refine gate_callee (f := 83) rfl ?_); refine goesL_ (some 15) rfl rfl Tryd.func83 (by kernel_rfl) rfl #[.slice A0_3 l0_3.length c0_3] rfl (by (try simp only [lm]); first | done | rfl | (simp only [List.length_drop, List.length_take]; rfl)) ?_; (with_reducible refine (laws_toIntS.calls k _ _ l0_3 t193 _ ?side1 ?side2 A2.out).mono ?_); (case side1 => exact Kd.C_below HR0_3.out (be w)); (case side2 => exact HC0_3.out); rintro e w11 ⟨v194, rfl, ho0, hb⟩; refine ⟨_, rfl, ?_⟩; have HO195 := As.mk (Kd.R_lower ho0 (below_size (be w))); replace BK190 := As.mk (blk_below (g := gb190) (o := .cells #[.int .i64 a0_0, .int .i64 a0_1, .string a0_2, .slice A0_3 l0_3.length c0_3] 62 (0, 0)) (by refine pl ?_; refine blk_far ?_ NB190_192.out _; refine pl ?_; refine blk_far ?_ NB190_192.out _; refine pl ?_; refine blk_far ?_ NB190_192.out _; exact bx BK190.out) hb); replace BK191 := As.mk (blk_below (g := gb191) (o := .cells #[.int .i64 0, .int .i64 0, .string (⟨#[]⟩ : ByteArray), .slice none 0 0] 64 (0, 0)) (by refine pl ?_; refine blk_far ?_ NB191_192.out _; refine pl ?_; refine blk_far ?_ NB191_192.out _; refine pl ?_; refine blk_far ?_ NB191_192.out _; exact bx BK191.out) hb); replace BK192 := As.mk (blk_below (g := gb192) (o := .cells #[.int .i64 a0_0, .int .i64 a0_1, .string a0_2, .slice none 0 0] 64 (0, 0)) (by refine pl ?_; refine blk_put (cs := #[.int .i64 a0_0, .int .i64 a0_1, .string (⟨#[]⟩ : ByteArray), .slice none 0 0]) ?_ 2 _ rfl; refine pl ?_; refine blk_put (cs := #[.int .i64 a0_0, .int .i64 0, .string (⟨#[]⟩ : ByteArray), .slice none 0 0]) ?_ 1 _ rfl; refine pl ?_; refine blk_put (cs := #[.int .i64 0, .int .i64 0, .string (⟨#[]⟩ : ByteArray), .slice none 0 0]) ?_ 0 _ rfl; exact bx BK192.out) hb); replace HB := As.mk (below_step (be w) hb); (try clear hb); (try clear hb2); (try clear hk); (try clear hi); (try clear ho0); obtain ⟨Ao12, co12, eo12⟩ := Kd.R_slice HO195.out; subst eo12; obtain ⟨hcz13_0, hcz13_1, hcz13_2, hcz13_3, hfz13_0, hfz13_1, hfz13_2, hfz13_3⟩ := cl4 BK192.out; obtain ⟨hcz14_0, hcz14_1, hcz14_2, hcz14_3, hfz14_0, hfz14_1, hfz14_2, hfz14_3⟩ := cl4 BK191.out))
 refine bodyPost_ret (results_cell_row rfl _ _ gb191 64 #[.int .i64 a0_0, .int .i64 a0_1, .string a0_2, .slice Ao12 t193.length co12] (0, 0) _ rfl (by refine pl ?_; refine blk_put (cs := #[.int .i64 a0_0, .int .i64 a0_1, .string a0_2, .slice none 0 0]) ?_ 3 _ rfl; refine pl ?_; refine blk_put (cs := #[.int .i64 a0_0, .int .i64 a0_1, .string (⟨#[]⟩ : ByteArray), .slice none 0 0]) ?_ 2 _ rfl; refine pl ?_; refine blk_put (cs := #[.int .i64 a0_0, .int .i64 0, .string (⟨#[]⟩ : ByteArray), .slice none 0 0]) ?_ 1 _ rfl; refine pl ?_; refine blk_put (cs := #[.int .i64 0, .int .i64 0, .string (⟨#[]⟩ : ByteArray), .slice none 0 0]) ?_ 0 _ rfl; refine pl ?_; refine blk_far ?_ NB191_192.out _; exact bx BK191.out) Tryd.underlying64 rfl (by kernel_rfl)) rfl ?_
 exact ⟨_, by first | rfl | (simp [errW_none, errW_some] <;> rfl) | (simp [*, errW_none, errW_some] <;> rfl), by (with_reducible repeat (first | apply Kd.R_alloc | apply Kd.R_drewN | apply Kd.R_drew)); exact Kd.R_mono (Kd.R_far (p := ⟨gb191, 3, none⟩) (Kd.R_far (p := ⟨gb191, 2, none⟩) (Kd.R_far (p := ⟨gb191, 1, none⟩) (Kd.R_far (p := ⟨gb191, 0, none⟩) (Kd.R_far (p := ⟨gb192, 3, none⟩) (Kd.R_types (Kd.R_types HO195.out BK192.out (by decide)) BK191.out (by decide)) (fun _ hk => hk.1.2) (.slice Ao12 t193.length co12)) (fun _ hk => hk.2) (.int .i64 a0_0)) (fun _ hk => hk.2) (.int .i64 a0_1)) (fun _ hk => hk.2) (.string a0_2)) (fun _ hk => hk.2) (.slice Ao12 t193.length co12)) (fun _ hk => trivial), be w⟩

end Go.Proofs.YtmdpggibcjkfoaaDoor.PFnExactSameTree
