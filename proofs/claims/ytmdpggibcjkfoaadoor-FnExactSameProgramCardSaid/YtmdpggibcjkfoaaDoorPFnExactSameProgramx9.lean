/- Written by a program of this session (a turned copy of the kit's print): a contract for each Go function. No condition beside those in each statement. -/
import Derived.Test.YtmdpggibcjkfoaaDoorPFnExactSameProgramx0
import Derived.Test.YtmdpggibcjkfoaaDoorPFnExactSameProgramx8
namespace Go.Proofs.YtmdpggibcjkfoaaDoor.PFnExactSameProgram
open Go.RowKit Go.Proofs.YtmdpggibcjkfoaaDoor.Given Go.Proofs.YtmdpggibcjkfoaaDoorW.PrintWords Go.Proofs.YtmdpggibcjkfoaaDoorW.PrintLast Go.Proofs.YtmdpggibcjkfoaaDoorW.PrintMore
attribute [local go_sem] max2_int min2_int max_two min_two max_three min_three max_four min_four   -- for this text's walks alone
set_option linter.unusedVariables false
set_option linter.unusedSimpArgs false

/-! ### spec_l05Same: function 68 -/
mutual
def spec_l05Same.j0 : Nat → List (S64) → List (S64) → Bool → Int → Int → ByteArray → List Int → Int → Int → ByteArray → List Int → Option (Bool)
 | 0, _, _, _, _, _, _, _, _, _, _, _ => none
 | k + 1, x0, x2, x47, x257000, x257001, x257002, x257003, x259000, x259001, x259002, x259003 => if x47 = true then (some false) else (spec_l05Same.l0 k x0 x2 0 x257000 x257001 x257002 x257003 x259000 x259001 x259002 x259003)
def spec_l05Same.l0 : Nat → List (S64) → List (S64) → Int → Int → Int → ByteArray → List Int → Int → Int → ByteArray → List Int → Option (Bool)
 | 0, _, _, _, _, _, _, _, _, _, _, _ => none
 | k + 1, x0, x2, x11, x257000, x257001, x257002, x257003, x259000, x259001, x259002, x259003 => if x11 < (x257003.length : Int) then (if 0 ≤ x11 then (if x11 < (x259003.length : Int) then ((spec_l05Same.f k x0 (rd x257003 x11) x2 (rd x259003 x11)).bind fun t261 => (if t261 = true then (spec_l05Same.l0 k x0 x2 (wrap64 (x11 + 1)) x257000 x257001 x257002 x257003 x259000 x259001 x259002 x259003) else (some false))) else (none)) else (none)) else (some true)
def spec_l05Same.f : Nat → List (S64) → Int → List (S64) → Int → Option (Bool)
 | 0, _, _, _, _ => none
 | k + 1, l0, a1, l2, a3 => if 0 ≤ a1 then (if a1 < (l0.length : Int) then (if 0 ≤ a3 then (if a3 < (l2.length : Int) then (if ((rd_T64 l0 a1).f0) = ((rd_T64 l2 a3).f0) then (if ((rd_T64 l0 a1).f1) = ((rd_T64 l2 a3).f1) then (if ((rd_T64 l0 a1).f2).toList = ((rd_T64 l2 a3).f2).toList then (spec_l05Same.j0 k l0 l2 ((((rd_T64 l0 a1).f3).length : Int) != (((rd_T64 l2 a3).f3).length : Int)) ((rd_T64 l0 a1).f0) ((rd_T64 l0 a1).f1) ((rd_T64 l0 a1).f2) ((rd_T64 l0 a1).f3) ((rd_T64 l2 a3).f0) ((rd_T64 l2 a3).f1) ((rd_T64 l2 a3).f2) ((rd_T64 l2 a3).f3)) else (spec_l05Same.j0 k l0 l2 true ((rd_T64 l0 a1).f0) ((rd_T64 l0 a1).f1) ((rd_T64 l0 a1).f2) ((rd_T64 l0 a1).f3) ((rd_T64 l2 a3).f0) ((rd_T64 l2 a3).f1) ((rd_T64 l2 a3).f2) ((rd_T64 l2 a3).f3))) else (spec_l05Same.j0 k l0 l2 true ((rd_T64 l0 a1).f0) ((rd_T64 l0 a1).f1) ((rd_T64 l0 a1).f2) ((rd_T64 l0 a1).f3) ((rd_T64 l2 a3).f0) ((rd_T64 l2 a3).f1) ((rd_T64 l2 a3).f2) ((rd_T64 l2 a3).f3))) else (spec_l05Same.j0 k l0 l2 true ((rd_T64 l0 a1).f0) ((rd_T64 l0 a1).f1) ((rd_T64 l0 a1).f2) ((rd_T64 l0 a1).f3) ((rd_T64 l2 a3).f0) ((rd_T64 l2 a3).f1) ((rd_T64 l2 a3).f2) ((rd_T64 l2 a3).f3))) else (none)) else (none)) else (none)) else (none)
end
theorem spec_l05Same.mono_l : ∀ k, (∀ y0 y1 y2 y3, LeO (spec_l05Same.f k y0 y1 y2 y3) (spec_l05Same.f (k + 1) y0 y1 y2 y3)) ∧ (∀ y0 y1 y2 y3 y4 y5 y6 y7 y8 y9 y10, LeO (spec_l05Same.j0 k y0 y1 y2 y3 y4 y5 y6 y7 y8 y9 y10) (spec_l05Same.j0 (k + 1) y0 y1 y2 y3 y4 y5 y6 y7 y8 y9 y10)) ∧ (∀ y0 y1 y2 y3 y4 y5 y6 y7 y8 y9 y10, LeO (spec_l05Same.l0 k y0 y1 y2 y3 y4 y5 y6 y7 y8 y9 y10) (spec_l05Same.l0 (k + 1) y0 y1 y2 y3 y4 y5 y6 y7 y8 y9 y10))
 | 0 => ⟨fun _ _ _ _ r h => by simp [spec_l05Same.f] at h, fun _ _ _ _ _ _ _ _ _ _ _ r h => by simp [spec_l05Same.j0] at h, fun _ _ _ _ _ _ _ _ _ _ _ r h => by simp [spec_l05Same.l0] at h⟩
 | k + 1 => by
  obtain ⟨ih0, ih1, ih2⟩ := spec_l05Same.mono_l k
  refine ⟨?_, ?_, ?_⟩
  ·
   intro y0 y1 y2 y3
   unfold spec_l05Same.f
   with_reducible repeat' first | exact ih0 _ _ _ _ | exact ih1 _ _ _ _ _ _ _ _ _ _ _ | exact ih2 _ _ _ _ _ _ _ _ _ _ _ | exact LeO.refl _ | exact LeO.none _ | refine LeO.ite ?_ ?_ | refine LeO.bind ?_ (fun _ => ?_)
  ·
   intro y0 y1 y2 y3 y4 y5 y6 y7 y8 y9 y10
   unfold spec_l05Same.j0
   with_reducible repeat' first | exact ih0 _ _ _ _ | exact ih1 _ _ _ _ _ _ _ _ _ _ _ | exact ih2 _ _ _ _ _ _ _ _ _ _ _ | exact LeO.refl _ | exact LeO.none _ | refine LeO.ite ?_ ?_ | refine LeO.bind ?_ (fun _ => ?_)
  ·
   intro y0 y1 y2 y3 y4 y5 y6 y7 y8 y9 y10
   unfold spec_l05Same.l0
   with_reducible repeat' first | exact ih0 _ _ _ _ | exact ih1 _ _ _ _ _ _ _ _ _ _ _ | exact ih2 _ _ _ _ _ _ _ _ _ _ _ | exact LeO.refl _ | exact LeO.none _ | refine LeO.ite ?_ ?_ | refine LeO.bind ?_ (fun _ => ?_)
theorem spec_l05Same.mono : ∀ a0 a1 a2 a3 k, LeO (spec_l05Same.f k a0 a1 a2 a3) (spec_l05Same.f (k + 1) a0 a1 a2 a3) := by
 intro a0 a1 a2 a3 k
 obtain ⟨ih0, ih1, ih2⟩ := spec_l05Same.mono_l k
 exact ih0 a0 a1 a2 a3
def spec_l05Same.T8 : Bool × List (List Nat × List Nat) := (true, [([], []), ([], []), ([1], [1]), ([], []), ([2, 3], [2, 3]), ([4], [4]), ([], []), ([], []), ([7], [7]), ([], []), ([8, 9], [8, 9]), ([10], [10]), ([0, 5, 6, 11], [0, 5, 6, 11]), ([12], [12])])
def spec_l05Same.B8 : List Nat := [0, 0, 2, 0, 14, 30, 0, 0, 128, 0, 896, 1920, 4095, 8191]
theorem spec_l05Same.tab8 : rtab .any (opsOf Tryd.f68 8) = spec_l05Same.T8 := by kernel_rfl
theorem spec_l05Same.bits8 : waitsOk spec_l05Same.T8.2 spec_l05Same.B8 = true := by kernel_rfl
set_option maxHeartbeats 8000000 in
set_option maxRecDepth 100000 in
theorem spec_l05Same.calls (k : Nat) : ∀ (A0 : Option Addr) (c0 : Nat) (l0 : List (S64)) (a1 : Int) (A2 : Option Addr) (c2 : Nat) (l2 : List (S64)) (a3 : Int) (r : Bool) (w : World) (hr0 : Kd.C k64 w A0 l0.length l0) (hc0 : l0.length ≤ c0) (hr2 : Kd.C k64 w A2 l2.length l2) (hc2 : l2.length ≤ c2) (h : spec_l05Same.f k l0 a1 l2 a3 = some r),
  Calls Tryd.prog 68 #[.slice A0 l0.length c0, .int .i64 a1, .slice A2 l2.length c2, .int .i64 a3] w fun e w' => e = .returned (.bool r) ∧ Below w.heap.size w w' := by
 induction k using Nat.strongRecOn with
 | _ k ih =>
 intro A0 c0 l0 a1 A2 c2 l2 a3 r w hr0 hc0 hr2 hc2 h
 cases k with
 | zero => exact absurd h (by simp [spec_l05Same.f])
 | succ k =>
 simp only [spec_l05Same.f] at h
 have hu64 := Tryd.underlying64
 have HR0 := As.mk hr0
 have HC0 := As.mk hc0
 clear hr0 hc0
 have HR2 := As.mk hr2
 have HC2 := As.mk hc2
 clear hr2 hc2
 have HB := As.mk (Below.refl w.heap.size w)
 have H : (if 0 ≤ a1 then (if a1 < (l0.length : Int) then (if 0 ≤ a3 then (if a3 < (l2.length : Int) then (if ((rd_T64 l0 a1).f0) = ((rd_T64 l2 a3).f0) then (if ((rd_T64 l0 a1).f1) = ((rd_T64 l2 a3).f1) then (if ((rd_T64 l0 a1).f2).toList = ((rd_T64 l2 a3).f2).toList then (spec_l05Same.j0 k l0 l2 ((((rd_T64 l0 a1).f3).length : Int) != (((rd_T64 l2 a3).f3).length : Int)) ((rd_T64 l0 a1).f0) ((rd_T64 l0 a1).f1) ((rd_T64 l0 a1).f2) ((rd_T64 l0 a1).f3) ((rd_T64 l2 a3).f0) ((rd_T64 l2 a3).f1) ((rd_T64 l2 a3).f2) ((rd_T64 l2 a3).f3)) else (spec_l05Same.j0 k l0 l2 true ((rd_T64 l0 a1).f0) ((rd_T64 l0 a1).f1) ((rd_T64 l0 a1).f2) ((rd_T64 l0 a1).f3) ((rd_T64 l2 a3).f0) ((rd_T64 l2 a3).f1) ((rd_T64 l2 a3).f2) ((rd_T64 l2 a3).f3))) else (spec_l05Same.j0 k l0 l2 true ((rd_T64 l0 a1).f0) ((rd_T64 l0 a1).f1) ((rd_T64 l0 a1).f2) ((rd_T64 l0 a1).f3) ((rd_T64 l2 a3).f0) ((rd_T64 l2 a3).f1) ((rd_T64 l2 a3).f2) ((rd_T64 l2 a3).f3))) else (spec_l05Same.j0 k l0 l2 true ((rd_T64 l0 a1).f0) ((rd_T64 l0 a1).f1) ((rd_T64 l0 a1).f2) ((rd_T64 l0 a1).f3) ((rd_T64 l2 a3).f0) ((rd_T64 l2 a3).f1) ((rd_T64 l2 a3).f2) ((rd_T64 l2 a3).f3))) else (none)) else (none)) else (none)) else (none)) = some r := h
 clear h
 by_cases c5 : 0 ≤ a1
 rotate_left
 ·
  rw [if_neg c5] at H
  exact absurd H (by simp)

 rw [if_pos c5] at H
 have c5b0 : decide (0 ≤ a1) = true := decide_eq_true c5
 clear c5
 by_cases c6 : a1 < (l0.length : Int)
 rotate_left
 ·
  rw [if_neg c6] at H
  exact absurd H (by simp)
 rw [if_pos c6] at H
 have c6b0 : decide (a1 < (l0.length : Int)) = true := decide_eq_true c6
 clear c6
 by_cases c7 : 0 ≤ a3
 rotate_left
 ·
  rw [if_neg c7] at H
  exact absurd H (by simp)
 rw [if_pos c7] at H
 have c7b0 : decide (0 ≤ a3) = true := decide_eq_true c7
 clear c7
 by_cases c8 : a3 < (l2.length : Int)
 rotate_left
 ·
  rw [if_neg c8] at H
  exact absurd H (by simp)
 rw [if_pos c8] at H
 have c8b0 : decide (a3 < (l2.length : Int)) = true := decide_eq_true c8
 clear c8
 have HC9 := As.mk H
 clear H
 have p255 : 0 ≤ (a1 : Int) := of_decide_eq_true (by first | (with_reducible assumption) | assumption)
 have q255 : a1 < (l0.length : Int) := of_decide_eq_true (by first | (with_reducible assumption) | assumption)
 obtain ⟨ad255, A255_3, c255_3, e255, hx255_0, hx255_1, hx255_2, hx255_3, hl255_3, hi255_3⟩ := at_T64 HR0.out a1 p255 q255
 cases e255
 have HR255_3 := As.mk hi255_3
 have HC255_3 := As.mk hl255_3
 clear hi255_3 hl255_3
 replace p255 := eq_true p255
 replace q255 := eq_true q255
 go_enter Tryd.func68, Tryd.ntmps68
 go_upto_region 3 with (first | ((with_reducible refine gate_dst (N := 9) rfl ?_); (try (refine gate_guard (by rfl) ?_; dsimp only)); refine box_event ?hg (N := 9) ?hd (cs := #[.int .i64 0, .int .i64 0, .string (⟨#[]⟩ : ByteArray), .slice none 0 0]) (t := 64) ?hr ?_; (case hd => rfl); (case hg => rfl); (case hr => first | (go_simp; done) | (go_simp; rfl)); intro gb256 hg w10 hbox hb; have BK256 := As.mk (hbox); have GW256 := As.mk (gs w hg); have GE256 := As.mk (gs w hg); replace HB := As.mk (below_step (be w) hb); clear hb hbox hg; obtain ⟨hcz11_0, hcz11_1, hcz11_2, hcz11_3, hfz11_0, hfz11_1, hfz11_2, hfz11_3⟩ := cl4 BK256.out; have p257 : 0 ≤ (a3 : Int) := of_decide_eq_true (by first | (with_reducible assumption) | assumption); have q257 : a3 < (l2.length : Int) := of_decide_eq_true (by first | (with_reducible assumption) | assumption); obtain ⟨ad257, A257_3, c257_3, e257, hx257_0, hx257_1, hx257_2, hx257_3, hl257_3, hi257_3⟩ := at_T64 HR2.out a3 p257 q257; cases e257; have hn257_0 : ad257.block ≠ gb256 := (by first | exact nb2 hx257_0 GW256.out | exact nb1 hx257_0 GW256.out); have hn257_1 : ad257.block ≠ gb256 := (by first | exact nb2 hx257_0 GW256.out | exact nb1 hx257_0 GW256.out); have hn257_2 : ad257.block ≠ gb256 := (by first | exact nb2 hx257_0 GW256.out | exact nb1 hx257_0 GW256.out); have hn257_3 : ad257.block ≠ gb256 := (by first | exact nb2 hx257_0 GW256.out | exact nb1 hx257_0 GW256.out); replace hx257_0 := ce HB.out hx257_0; replace hx257_1 := ce HB.out hx257_1; replace hx257_2 := ce HB.out hx257_2; replace hx257_3 := ce HB.out hx257_3; have HR257_3 := As.mk hi257_3; have HC257_3 := As.mk hl257_3; clear hi257_3 hl257_3; replace hx257_0 := cf0 (j := 0) (.int .i64 ((rd_T64 l0 a1).f0)) hx257_0 hn257_0; replace hx257_1 := cf1 (j := 0) (.int .i64 ((rd_T64 l0 a1).f0)) hx257_1 hn257_0; replace hx257_2 := cf1 (j := 0) (.int .i64 ((rd_T64 l0 a1).f0)) hx257_2 hn257_0; replace hx257_3 := cf1 (j := 0) (.int .i64 ((rd_T64 l0 a1).f0)) hx257_3 hn257_0; replace hx257_0 := cf0 (j := 1) (.int .i64 ((rd_T64 l0 a1).f1)) hx257_0 hn257_1; replace hx257_1 := cf1 (j := 1) (.int .i64 ((rd_T64 l0 a1).f1)) hx257_1 hn257_1; replace hx257_2 := cf1 (j := 1) (.int .i64 ((rd_T64 l0 a1).f1)) hx257_2 hn257_1; replace hx257_3 := cf1 (j := 1) (.int .i64 ((rd_T64 l0 a1).f1)) hx257_3 hn257_1; replace hx257_0 := cf0 (j := 2) (.string ((rd_T64 l0 a1).f2)) hx257_0 hn257_2; replace hx257_1 := cf1 (j := 2) (.string ((rd_T64 l0 a1).f2)) hx257_1 hn257_2; replace hx257_2 := cf1 (j := 2) (.string ((rd_T64 l0 a1).f2)) hx257_2 hn257_2; replace hx257_3 := cf1 (j := 2) (.string ((rd_T64 l0 a1).f2)) hx257_3 hn257_2; replace hx257_0 := cf0 (j := 3) (.slice A255_3 ((rd_T64 l0 a1).f3).length c255_3) hx257_0 hn257_3; replace hx257_1 := cf1 (j := 3) (.slice A255_3 ((rd_T64 l0 a1).f3).length c255_3) hx257_1 hn257_3; replace hx257_2 := cf1 (j := 3) (.slice A255_3 ((rd_T64 l0 a1).f3).length c255_3) hx257_2 hn257_3; replace hx257_3 := cf1 (j := 3) (.slice A255_3 ((rd_T64 l0 a1).f3).length c255_3) hx257_3 hn257_3; clear hn257_0; clear hn257_1; clear hn257_2; clear hn257_3; replace p257 := eq_true p257; replace q257 := eq_true q257) | ((with_reducible refine gate_dst (N := 10) rfl ?_); (try (refine gate_guard (by rfl) ?_; dsimp only)); refine box_event ?hg (N := 10) ?hd (cs := #[.int .i64 0, .int .i64 0, .string (⟨#[]⟩ : ByteArray), .slice none 0 0]) (t := 64) ?hr ?_; (case hd => rfl); (case hg => rfl); (case hr => first | (go_simp; done) | (go_simp; rfl)); intro gb258 hg w12 hbox hb; have BK258 := As.mk (hbox); have GW258 := As.mk (gs w hg); have GE258 := As.mk (gs w hg); replace HB := As.mk (below_step (be w) hb); have NB256_258 := As.mk ((by rw [hg]; exact Nat.ne_of_lt (blk_lt (g := gb256) (o := .cells #[.int .i64 ((rd_T64 l0 a1).f0), .int .i64 ((rd_T64 l0 a1).f1), .string ((rd_T64 l0 a1).f2), .slice A255_3 ((rd_T64 l0 a1).f3).length c255_3] 64 (0, 0)) (by refine pl ?_; refine blk_put (cs := #[.int .i64 ((rd_T64 l0 a1).f0), .int .i64 ((rd_T64 l0 a1).f1), .string ((rd_T64 l0 a1).f2), .slice none 0 0]) ?_ 3 _ rfl; refine pl ?_; refine blk_put (cs := #[.int .i64 ((rd_T64 l0 a1).f0), .int .i64 ((rd_T64 l0 a1).f1), .string (⟨#[]⟩ : ByteArray), .slice none 0 0]) ?_ 2 _ rfl; refine pl ?_; refine blk_put (cs := #[.int .i64 ((rd_T64 l0 a1).f0), .int .i64 0, .string (⟨#[]⟩ : ByteArray), .slice none 0 0]) ?_ 1 _ rfl; refine pl ?_; refine blk_put (cs := #[.int .i64 0, .int .i64 0, .string (⟨#[]⟩ : ByteArray), .slice none 0 0]) ?_ 0 _ rfl; exact bx BK256.out)) : gb256 ≠ gb258)); have NB258_256 := As.mk ((by rw [hg]; exact Nat.ne_of_gt (blk_lt (g := gb256) (o := .cells #[.int .i64 ((rd_T64 l0 a1).f0), .int .i64 ((rd_T64 l0 a1).f1), .string ((rd_T64 l0 a1).f2), .slice A255_3 ((rd_T64 l0 a1).f3).length c255_3] 64 (0, 0)) (by refine pl ?_; refine blk_put (cs := #[.int .i64 ((rd_T64 l0 a1).f0), .int .i64 ((rd_T64 l0 a1).f1), .string ((rd_T64 l0 a1).f2), .slice none 0 0]) ?_ 3 _ rfl; refine pl ?_; refine blk_put (cs := #[.int .i64 ((rd_T64 l0 a1).f0), .int .i64 ((rd_T64 l0 a1).f1), .string (⟨#[]⟩ : ByteArray), .slice none 0 0]) ?_ 2 _ rfl; refine pl ?_; refine blk_put (cs := #[.int .i64 ((rd_T64 l0 a1).f0), .int .i64 0, .string (⟨#[]⟩ : ByteArray), .slice none 0 0]) ?_ 1 _ rfl; refine pl ?_; refine blk_put (cs := #[.int .i64 0, .int .i64 0, .string (⟨#[]⟩ : ByteArray), .slice none 0 0]) ?_ 0 _ rfl; exact bx BK256.out)) : gb258 ≠ gb256)); replace BK256 := As.mk (blk_below (g := gb256) (o := .cells #[.int .i64 ((rd_T64 l0 a1).f0), .int .i64 ((rd_T64 l0 a1).f1), .string ((rd_T64 l0 a1).f2), .slice A255_3 ((rd_T64 l0 a1).f3).length c255_3] 64 (0, 0)) (by refine pl ?_; refine blk_put (cs := #[.int .i64 ((rd_T64 l0 a1).f0), .int .i64 ((rd_T64 l0 a1).f1), .string ((rd_T64 l0 a1).f2), .slice none 0 0]) ?_ 3 _ rfl; refine pl ?_; refine blk_put (cs := #[.int .i64 ((rd_T64 l0 a1).f0), .int .i64 ((rd_T64 l0 a1).f1), .string (⟨#[]⟩ : ByteArray), .slice none 0 0]) ?_ 2 _ rfl; refine pl ?_; refine blk_put (cs := #[.int .i64 ((rd_T64 l0 a1).f0), .int .i64 0, .string (⟨#[]⟩ : ByteArray), .slice none 0 0]) ?_ 1 _ rfl; refine pl ?_; refine blk_put (cs := #[.int .i64 0, .int .i64 0, .string (⟨#[]⟩ : ByteArray), .slice none 0 0]) ?_ 0 _ rfl; exact bx BK256.out) hb); clear hb hbox hg; have hnb13 := NB258_256.out; have hnc13 := NB256_258.out; obtain ⟨hcz14_0, hcz14_1, hcz14_2, hcz14_3, hfz14_0, hfz14_1, hfz14_2, hfz14_3⟩ := cl4 BK258.out))
 (try simp only [pk])
 go_cut [47] (fun v47 wc => ∃ (kq : Nat) (x47_8 : Bool), v47 = .bool x47_8 ∧ As (spec_l05Same.j0 kq l0 l2 x47_8 ((rd_T64 l0 a1).f0) ((rd_T64 l0 a1).f1) ((rd_T64 l0 a1).f2) ((rd_T64 l0 a1).f3) ((rd_T64 l2 a3).f0) ((rd_T64 l2 a3).f1) ((rd_T64 l2 a3).f2) ((rd_T64 l2 a3).f3) = some r) ∧ As (kq ≤ k) ∧ As (wc.heap[gb256]? = some (.cells #[.int .i64 ((rd_T64 l0 a1).f0), .int .i64 ((rd_T64 l0 a1).f1), .string ((rd_T64 l0 a1).f2), (.slice A255_3 ((rd_T64 l0 a1).f3).length c255_3)] 64 (0, 0))) ∧ As (wc.heap[gb258]? = some (.cells #[.int .i64 ((rd_T64 l2 a3).f0), .int .i64 ((rd_T64 l2 a3).f1), .string ((rd_T64 l2 a3).f2), (.slice A257_3 ((rd_T64 l2 a3).f3).length c257_3)] 64 (0, 0))) ∧ As (Below w.heap.size w wc))
 case first =>
  have H := HC9.out
  clear HC9
  by_cases c15 : ((rd_T64 l0 a1).f0) = ((rd_T64 l2 a3).f0)
  rotate_left
  ·
   rw [if_neg c15] at H
   have c15b0 : (((rd_T64 l0 a1).f0) == ((rd_T64 l2 a3).f0)) = false := beq_eq_false_iff_ne.mpr c15
   have c15b1 : (((rd_T64 l0 a1).f0) != ((rd_T64 l2 a3).f0)) = true := bne_iff_ne.mpr c15
   (first | rw [c15b0] | (simp only [i64_w, i32_w]; rw [c15b0]) | skip)
   have H' := As.mk H
   clear H
   have hnb27 := NB256_258.out
   have hnc27 := NB258_256.out
   obtain ⟨hcz28_0, hcz28_1, hcz28_2, hcz28_3, hfz28_0, hfz28_1, hfz28_2, hfz28_3⟩ := cl4 BK256.out
   obtain ⟨hcz29_0, hcz29_1, hcz29_2, hcz29_3, hfz29_0, hfz29_1, hfz29_2, hfz29_3⟩ := cl4 BK258.out
   go_wp2
   go_meet
   case rel => exact ⟨_, (true), (by first | rfl | (simp; done) | (simp [*]; done)), H', ⟨by first | omega | exact Nat.le_refl _⟩, ⟨by refine pl ?_; refine blk_far ?_ NB256_258.out _; refine pl ?_; refine blk_far ?_ NB256_258.out _; refine pl ?_; refine blk_far ?_ NB256_258.out _; refine pl ?_; refine blk_far ?_ NB256_258.out _; exact bx BK256.out⟩, ⟨by refine pl ?_; refine blk_put (cs := #[.int .i64 ((rd_T64 l2 a3).f0), .int .i64 ((rd_T64 l2 a3).f1), .string ((rd_T64 l2 a3).f2), .slice none 0 0]) ?_ 3 _ rfl; refine pl ?_; refine blk_put (cs := #[.int .i64 ((rd_T64 l2 a3).f0), .int .i64 ((rd_T64 l2 a3).f1), .string (⟨#[]⟩ : ByteArray), .slice none 0 0]) ?_ 2 _ rfl; refine pl ?_; refine blk_put (cs := #[.int .i64 ((rd_T64 l2 a3).f0), .int .i64 0, .string (⟨#[]⟩ : ByteArray), .slice none 0 0]) ?_ 1 _ rfl; refine pl ?_; refine blk_put (cs := #[.int .i64 0, .int .i64 0, .string (⟨#[]⟩ : ByteArray), .slice none 0 0]) ?_ 0 _ rfl; exact bx BK258.out⟩, ⟨be w⟩⟩
  rw [if_pos c15] at H
  have c15b0 : (((rd_T64 l0 a1).f0) == ((rd_T64 l2 a3).f0)) = true := beq_iff_eq.mpr c15
  have c15b1 : (((rd_T64 l0 a1).f0) != ((rd_T64 l2 a3).f0)) = false := bne_eq_false_iff_eq.mpr c15
  clear c15
  (first | rw [c15b0] | (simp only [i64_w, i32_w]; rw [c15b0]) | skip)
  by_cases c16 : ((rd_T64 l0 a1).f1) = ((rd_T64 l2 a3).f1)
  rotate_left
  ·
   rw [if_neg c16] at H
   have c16b0 : (((rd_T64 l0 a1).f1) == ((rd_T64 l2 a3).f1)) = false := beq_eq_false_iff_ne.mpr c16
   have c16b1 : (((rd_T64 l0 a1).f1) != ((rd_T64 l2 a3).f1)) = true := bne_iff_ne.mpr c16
   have H' := As.mk H
   clear H
   have hnb24 := NB256_258.out
   have hnc24 := NB258_256.out
   obtain ⟨hcz25_0, hcz25_1, hcz25_2, hcz25_3, hfz25_0, hfz25_1, hfz25_2, hfz25_3⟩ := cl4 BK256.out
   obtain ⟨hcz26_0, hcz26_1, hcz26_2, hcz26_3, hfz26_0, hfz26_1, hfz26_2, hfz26_3⟩ := cl4 BK258.out
   go_wp2
   go_meet
   case rel => exact ⟨_, (true), (by first | rfl | (simp; done) | (simp [*]; done)), H', ⟨by first | omega | exact Nat.le_refl _⟩, ⟨by refine pl ?_; refine blk_far ?_ NB256_258.out _; refine pl ?_; refine blk_far ?_ NB256_258.out _; refine pl ?_; refine blk_far ?_ NB256_258.out _; refine pl ?_; refine blk_far ?_ NB256_258.out _; exact bx BK256.out⟩, ⟨by refine pl ?_; refine blk_put (cs := #[.int .i64 ((rd_T64 l2 a3).f0), .int .i64 ((rd_T64 l2 a3).f1), .string ((rd_T64 l2 a3).f2), .slice none 0 0]) ?_ 3 _ rfl; refine pl ?_; refine blk_put (cs := #[.int .i64 ((rd_T64 l2 a3).f0), .int .i64 ((rd_T64 l2 a3).f1), .string (⟨#[]⟩ : ByteArray), .slice none 0 0]) ?_ 2 _ rfl; refine pl ?_; refine blk_put (cs := #[.int .i64 ((rd_T64 l2 a3).f0), .int .i64 0, .string (⟨#[]⟩ : ByteArray), .slice none 0 0]) ?_ 1 _ rfl; refine pl ?_; refine blk_put (cs := #[.int .i64 0, .int .i64 0, .string (⟨#[]⟩ : ByteArray), .slice none 0 0]) ?_ 0 _ rfl; exact bx BK258.out⟩, ⟨be w⟩⟩
  rw [if_pos c16] at H
  have c16b0 : (((rd_T64 l0 a1).f1) == ((rd_T64 l2 a3).f1)) = true := beq_iff_eq.mpr c16
  have c16b1 : (((rd_T64 l0 a1).f1) != ((rd_T64 l2 a3).f1)) = false := bne_eq_false_iff_eq.mpr c16
  clear c16
  by_cases c17 : ((rd_T64 l0 a1).f2).toList = ((rd_T64 l2 a3).f2).toList
  rotate_left
  ·
   rw [if_neg c17] at H
   have c17b0 : (((rd_T64 l0 a1).f2).toList == ((rd_T64 l2 a3).f2).toList) = false := beq_eq_false_iff_ne.mpr c17
   have c17b1 : (((rd_T64 l0 a1).f2).toList != ((rd_T64 l2 a3).f2).toList) = true := bne_iff_ne.mpr c17
   have H' := As.mk H
   clear H
   have hnb21 := NB256_258.out
   have hnc21 := NB258_256.out
   obtain ⟨hcz22_0, hcz22_1, hcz22_2, hcz22_3, hfz22_0, hfz22_1, hfz22_2, hfz22_3⟩ := cl4 BK256.out
   obtain ⟨hcz23_0, hcz23_1, hcz23_2, hcz23_3, hfz23_0, hfz23_1, hfz23_2, hfz23_3⟩ := cl4 BK258.out
   go_wp2
   go_meet
   case rel => exact ⟨_, (true), (by first | rfl | (simp; done) | (simp [*]; done)), H', ⟨by first | omega | exact Nat.le_refl _⟩, ⟨by refine pl ?_; refine blk_far ?_ NB256_258.out _; refine pl ?_; refine blk_far ?_ NB256_258.out _; refine pl ?_; refine blk_far ?_ NB256_258.out _; refine pl ?_; refine blk_far ?_ NB256_258.out _; exact bx BK256.out⟩, ⟨by refine pl ?_; refine blk_put (cs := #[.int .i64 ((rd_T64 l2 a3).f0), .int .i64 ((rd_T64 l2 a3).f1), .string ((rd_T64 l2 a3).f2), .slice none 0 0]) ?_ 3 _ rfl; refine pl ?_; refine blk_put (cs := #[.int .i64 ((rd_T64 l2 a3).f0), .int .i64 ((rd_T64 l2 a3).f1), .string (⟨#[]⟩ : ByteArray), .slice none 0 0]) ?_ 2 _ rfl; refine pl ?_; refine blk_put (cs := #[.int .i64 ((rd_T64 l2 a3).f0), .int .i64 0, .string (⟨#[]⟩ : ByteArray), .slice none 0 0]) ?_ 1 _ rfl; refine pl ?_; refine blk_put (cs := #[.int .i64 0, .int .i64 0, .string (⟨#[]⟩ : ByteArray), .slice none 0 0]) ?_ 0 _ rfl; exact bx BK258.out⟩, ⟨be w⟩⟩
  rw [if_pos c17] at H
  have c17b0 : (((rd_T64 l0 a1).f2).toList == ((rd_T64 l2 a3).f2).toList) = true := beq_iff_eq.mpr c17
  have c17b1 : (((rd_T64 l0 a1).f2).toList != ((rd_T64 l2 a3).f2).toList) = false := bne_eq_false_iff_eq.mpr c17
  clear c17
  have H' := As.mk H
  clear H
  have hnb18 := NB256_258.out
  have hnc18 := NB258_256.out
  obtain ⟨hcz19_0, hcz19_1, hcz19_2, hcz19_3, hfz19_0, hfz19_1, hfz19_2, hfz19_3⟩ := cl4 BK256.out
  obtain ⟨hcz20_0, hcz20_1, hcz20_2, hcz20_3, hfz20_0, hfz20_1, hfz20_2, hfz20_3⟩ := cl4 BK258.out
  go_wp2
  go_meet
  case rel => exact ⟨_, (((((rd_T64 l0 a1).f3).length : Int) != (((rd_T64 l2 a3).f3).length : Int))), (by first | rfl | (simp; done) | (simp [*]; done)), H', ⟨by first | omega | exact Nat.le_refl _⟩, ⟨by refine pl ?_; refine blk_far ?_ NB256_258.out _; refine pl ?_; refine blk_far ?_ NB256_258.out _; refine pl ?_; refine blk_far ?_ NB256_258.out _; refine pl ?_; refine blk_far ?_ NB256_258.out _; exact bx BK256.out⟩, ⟨by refine pl ?_; refine blk_put (cs := #[.int .i64 ((rd_T64 l2 a3).f0), .int .i64 ((rd_T64 l2 a3).f1), .string ((rd_T64 l2 a3).f2), .slice none 0 0]) ?_ 3 _ rfl; refine pl ?_; refine blk_put (cs := #[.int .i64 ((rd_T64 l2 a3).f0), .int .i64 ((rd_T64 l2 a3).f1), .string (⟨#[]⟩ : ByteArray), .slice none 0 0]) ?_ 2 _ rfl; refine pl ?_; refine blk_put (cs := #[.int .i64 ((rd_T64 l2 a3).f0), .int .i64 0, .string (⟨#[]⟩ : ByteArray), .slice none 0 0]) ?_ 1 _ rfl; refine pl ?_; refine blk_put (cs := #[.int .i64 0, .int .i64 0, .string (⟨#[]⟩ : ByteArray), .slice none 0 0]) ?_ 0 _ rfl; exact bx BK258.out⟩, ⟨be w⟩⟩
 case rest =>
  clear HC9
  (try clear c2); (try clear c5); (try clear c5b0); (try clear c6); (try clear c6b0); (try clear c7); (try clear c7b0); (try clear c8); (try clear c8b0); (try clear hcz11_0); (try clear hcz11_1); (try clear hcz11_2); (try clear hcz11_3); (try clear hcz14_0); (try clear hcz14_1); (try clear hcz14_2); (try clear hcz14_3); (try clear hfz11_0); (try clear hfz11_1); (try clear hfz11_2); (try clear hfz11_3); (try clear hfz14_0); (try clear hfz14_1); (try clear hfz14_2); (try clear hfz14_3); (try clear hx255_0); (try clear hx255_1); (try clear hx255_2); (try clear hx255_3); (try clear hx257_0); (try clear hx257_1); (try clear hx257_2); (try clear hx257_3); (try clear p255); (try clear p257); (try clear q255); (try clear q257)
  obtain ⟨kq, x47_8, rfl, HA, HJ8, BK256, BK258, HB⟩ := hcut
  cases kq with
  | zero => exact absurd HA.out (by simp [spec_l05Same.j0])
  | succ kj8 =>
   have H := HA.out
   clear HA
   simp only [spec_l05Same.j0] at H
   by_cases c30 : x47_8 = true
   ·
    subst c30
    rw [if_pos rfl] at H
    obtain rfl := Option.some.inj H
    go_wp2
    go_ret
    exact ⟨by first | rfl | (simp [errW_none, errW_some] <;> rfl) | (simp [*, errW_none, errW_some] <;> rfl), be w⟩
   replace c30 := Bool.eq_false_iff.mpr c30
   subst c30
   rw [if_neg (show ¬ (false = true) by decide)] at H
   have H' := As.mk H
   clear H
   go_wp2
   go_loopg [11] kj8 (fun kq v11 w' => ∃ (x11_2 : Int), v11 = .int .i64 x11_2 ∧ As (spec_l05Same.l0 kq l0 l2 x11_2 ((rd_T64 l0 a1).f0) ((rd_T64 l0 a1).f1) ((rd_T64 l0 a1).f2) ((rd_T64 l0 a1).f3) ((rd_T64 l2 a3).f0) ((rd_T64 l2 a3).f1) ((rd_T64 l2 a3).f2) ((rd_T64 l2 a3).f3) = some r) ∧ As (kq ≤ kj8) ∧ As (w'.heap[gb256]? = some (.cells #[.int .i64 ((rd_T64 l0 a1).f0), .int .i64 ((rd_T64 l0 a1).f1), .string ((rd_T64 l0 a1).f2), (.slice A255_3 ((rd_T64 l0 a1).f3).length c255_3)] 64 (0, 0))) ∧ As (w'.heap[gb258]? = some (.cells #[.int .i64 ((rd_T64 l2 a3).f0), .int .i64 ((rd_T64 l2 a3).f1), .string ((rd_T64 l2 a3).f2), (.slice A257_3 ((rd_T64 l2 a3).f3).length c257_3)] 64 (0, 0))) ∧ As (Below w.heap.size w w'))
   case atStart => exact ⟨(0), (by first | rfl | (simp; done) | (simp [*]; done)), H', ⟨Nat.le_refl _⟩, ⟨bx BK256.out⟩, ⟨bx BK258.out⟩, ⟨be w⟩⟩
   case round =>
    clear H'
    (try clear c2); (try clear c5); (try clear c5b0); (try clear c6); (try clear c6b0); (try clear c7); (try clear c7b0); (try clear c8); (try clear c8b0); (try clear c30); (try clear hcz11_0); (try clear hcz11_1); (try clear hcz11_2); (try clear hcz11_3); (try clear hcz14_0); (try clear hcz14_1); (try clear hcz14_2); (try clear hcz14_3); (try clear hfz11_0); (try clear hfz11_1); (try clear hfz11_2); (try clear hfz11_3); (try clear hfz14_0); (try clear hfz14_1); (try clear hfz14_2); (try clear hfz14_3); (try clear hx255_0); (try clear hx255_1); (try clear hx255_2); (try clear hx255_3); (try clear hx257_0); (try clear hx257_1); (try clear hx257_2); (try clear hx257_3); (try clear p255); (try clear p257); (try clear q255); (try clear q257)
    obtain ⟨x11_2, rfl, HA, HK2, BK256, BK258, HB⟩ := hrel
    cases gk with
    | zero => exact absurd HA.out (by simp [spec_l05Same.l0])
    | succ k2 =>
     have H := HA.out
     clear HA
     simp only [spec_l05Same.l0] at H
     by_cases c31 : x11_2 < (((rd_T64 l0 a1).f3).length : Int)
     rotate_left
     ·
      rw [if_neg c31] at H
      have c31b0 : decide (x11_2 < (((rd_T64 l0 a1).f3).length : Int)) = false := decide_eq_false c31
      clear c31
      obtain rfl := Option.some.inj H
      obtain ⟨hcz44_0, hcz44_1, hcz44_2, hcz44_3, hfz44_0, hfz44_1, hfz44_2, hfz44_3⟩ := cl4 BK256.out
      go_wp2
      go_ret
      exact ⟨by first | rfl | (simp [errW_none, errW_some] <;> rfl) | (simp [*, errW_none, errW_some] <;> rfl), be w⟩
     rw [if_pos c31] at H
     have c31b0 : decide (x11_2 < (((rd_T64 l0 a1).f3).length : Int)) = true := decide_eq_true c31
     clear c31
     by_cases c32 : 0 ≤ x11_2
     rotate_left
     ·
      rw [if_neg c32] at H
      exact absurd H (by simp)
     rw [if_pos c32] at H
     have c32b0 : decide (0 ≤ x11_2) = true := decide_eq_true c32
     clear c32
     by_cases c33 : x11_2 < (((rd_T64 l2 a3).f3).length : Int)
     rotate_left
     ·
      rw [if_neg c33] at H
      exact absurd H (by simp)
     rw [if_pos c33] at H
     have c33b0 : decide (x11_2 < (((rd_T64 l2 a3).f3).length : Int)) = true := decide_eq_true c33
     clear c33
     obtain ⟨t261, A340, H⟩ := Option.bind_eq_some_iff.mp H
     try dsimp only at H
     have A34 := As.mk A340
     clear A340
     by_cases c35 : t261 = true
     rotate_left
     ·
      replace c35 := Bool.eq_false_iff.mpr c35
      subst c35
      rw [if_neg (show ¬ (false = true) by decide)] at H
      obtain rfl := Option.some.inj H
      have hnb40 := NB256_258.out
      have hnc40 := NB258_256.out
      obtain ⟨hcz41_0, hcz41_1, hcz41_2, hcz41_3, hfz41_0, hfz41_1, hfz41_2, hfz41_3⟩ := cl4 BK256.out
      try go_wp2
      replace BK256 := As.mk (blk_drew BK256.out)
      replace BK258 := As.mk (blk_drew BK258.out)
      replace HB := As.mk (below_drew1 HB.out)
      have p259 : 0 ≤ (x11_2 : Int) := of_decide_eq_true (by first | (with_reducible assumption) | assumption)
      have q259 : x11_2 < (((rd_T64 l0 a1).f3).length : Int) := of_decide_eq_true (by first | (with_reducible assumption) | assumption)
      obtain ⟨ad259, e259, hx259_0⟩ := Kd.at_int HR255_3.out x11_2 p259 q259
      have hw259_0 := hx259_0
      cases e259
      replace hx259_0 := ce HB.out hx259_0
      replace p259 := eq_true p259
      replace q259 := eq_true q259
      have p260 : 0 ≤ (x11_2 : Int) := of_decide_eq_true (by first | (with_reducible assumption) | assumption)
      have q260 : x11_2 < (((rd_T64 l2 a3).f3).length : Int) := of_decide_eq_true (by first | (with_reducible assumption) | assumption)
      obtain ⟨ad260, e260, hx260_0⟩ := Kd.at_int HR257_3.out x11_2 p260 q260
      have hw260_0 := hx260_0
      cases e260
      replace hx260_0 := ce HB.out hx260_0
      replace p260 := eq_true p260
      replace q260 := eq_true q260
      refine start_ (n := 14) (S := fun w' => w'.cell? ⟨gb256, 0, none⟩ = some (.int .i64 ((rd_T64 l0 a1).f0)) ∧ w'.cell? ⟨gb256, 1, none⟩ = some (.int .i64 ((rd_T64 l0 a1).f1)) ∧ w'.cell? ⟨gb256, 2, none⟩ = some (.string ((rd_T64 l0 a1).f2)) ∧ w'.cell? ⟨gb256, 3, none⟩ = some (.slice (some ad259) ((rd_T64 l0 a1).f3).length c255_3) ∧ w'.cell? ⟨gb258, 0, none⟩ = some (.int .i64 ((rd_T64 l2 a3).f0)) ∧ w'.cell? ⟨gb258, 1, none⟩ = some (.int .i64 ((rd_T64 l2 a3).f1)) ∧ w'.cell? ⟨gb258, 2, none⟩ = some (.string ((rd_T64 l2 a3).f2)) ∧ w'.cell? ⟨gb258, 3, none⟩ = some (.slice (some ad260) ((rd_T64 l2 a3).f3).length c257_3) ∧ w'.cell? (ad259.add (x11_2).toNat) = some (.int .i64 (rd ((rd_T64 l0 a1).f3) x11_2)) ∧ w'.cell? (ad260.add (x11_2).toNat) = some (.int .i64 (rd ((rd_T64 l2 a3).f3) x11_2))) (ds := []) #[O, O, O, O, O, O, O, O, O, O, O, O, O, O] (by kernel_rfl) rfl rfl ⟨(blk_cell BK256.out 0).trans rfl, (blk_cell BK256.out 1).trans rfl, (blk_cell BK256.out 2).trans rfl, (blk_cell BK256.out 3).trans rfl, (blk_cell BK258.out 0).trans rfl, (blk_cell BK258.out 1).trans rfl, (blk_cell BK258.out 2).trans rfl, (blk_cell BK258.out 3).trans rfl, (ce HB.out hw259_0 :), (ce HB.out hw260_0 :)⟩ (fun hHeld => ?_); refine with_tabW spec_l05Same.tab8 spec_l05Same.bits8 (fun HT_ HW_ => ?_)
      generalize wr.drew = w42 at BK256 BK258 HB hx259_0 hx260_0 hHeld ⊢
      refine pure_ (i := 0) (N := some 55) (v := ?_) (a' := ?_) #[I, O, O, O, O, O, O, O, O, O, O, O, O, O] rfl rfl (any_of HT_.out (by kernel_rfl)) (fun _ _ _ h => h) (Or.inl ⟨by rfl, ?_⟩) ?_ ?_
      rotate_left
      ·
       intro w'
       go_simp
       with_reducible rfl
      rotate_left
      ·
       simp only [pk, i64_w, i32_w]
       rfl
      refine pure_ (i := 1) (N := some 56) (v := ?_) (a' := ?_) #[I, I, O, O, O, O, O, O, O, O, O, O, O, O] rfl rfl (any_of HT_.out (by kernel_rfl)) (fun _ _ _ h => h) (Or.inl ⟨by rfl, ?_⟩) ?_ ?_
      rotate_left
      ·
       intro w'
       go_simp
       with_reducible rfl
      rotate_left
      ·
       simp only [pk, i64_w, i32_w]
       rfl
      refine pure_ (i := 3) (N := some 58) (v := ?_) (a' := ?_) #[I, I, O, I, O, O, O, O, O, O, O, O, O, O] rfl rfl (any_of HT_.out (by kernel_rfl)) (fun _ _ _ h => h) (Or.inl ⟨by rfl, ?_⟩) ?_ ?_
      rotate_left
      ·
       intro w'
       go_simp
       with_reducible rfl
      rotate_left
      ·
       simp only [pk, i64_w, i32_w]
       rfl
      refine pure_ (i := 6) (N := some 61) (v := ?_) (a' := ?_) #[I, I, O, I, O, O, I, O, O, O, O, O, O, O] rfl rfl (any_of HT_.out (by kernel_rfl)) (fun _ _ _ h => h) (Or.inl ⟨by rfl, ?_⟩) ?_ ?_
      rotate_left
      ·
       intro w'
       go_simp
       with_reducible rfl
      rotate_left
      ·
       simp only [pk, i64_w, i32_w]
       rfl
      refine pure_ (i := 7) (N := some 62) (v := ?_) (a' := ?_) #[I, I, O, I, O, O, I, I, O, O, O, O, O, O] rfl rfl (any_of HT_.out (by kernel_rfl)) (fun _ _ _ h => h) (Or.inl ⟨by rfl, ?_⟩) ?_ ?_
      rotate_left
      ·
       intro w'
       go_simp
       with_reducible rfl
      rotate_left
      ·
       simp only [pk, i64_w, i32_w]
       rfl
      refine pure_ (i := 9) (N := some 64) (v := ?_) (a' := ?_) #[I, I, O, I, O, O, I, I, O, I, O, O, O, O] rfl rfl (any_of HT_.out (by kernel_rfl)) (fun _ _ _ h => h) (Or.inl ⟨by rfl, ?_⟩) ?_ ?_
      rotate_left
      ·
       intro w'
       go_simp
       with_reducible rfl
      rotate_left
      ·
       simp only [pk, i64_w, i32_w]
       rfl
      refine take_ (i := 2) (N := some 57) (v := ?_) (a' := ?_) #[I, I, I, I, O, O, I, I, O, I, O, O, O, O] rfl rfl (take_ofW HT_.out HW_.out (by kernel_rfl)) (fun _ _ _ h => h) (Or.inl ⟨by rfl, ?_⟩) hHeld ?_ ?_
      rotate_left
      ·
       rintro w' ⟨s0, s1, s2, s3, s4, s5, s6, s7, s8, s9⟩
       go_simp
       with_reducible rfl
      rotate_left
      ·
       simp only [pk, i64_w, i32_w]
       rfl
      refine pure_ (i := 4) (N := some 59) (v := ?_) (a' := ?_) #[I, I, I, I, I, O, I, I, O, I, O, O, O, O] rfl rfl (any_of HT_.out (by kernel_rfl)) (fun _ _ _ h => h) (Or.inl ⟨by rfl, ?_⟩) ?_ ?_
      rotate_left
      ·
       intro w'
       go_simp
       with_reducible rfl
      rotate_left
      ·
       simp only [pk, i64_w, i32_w]
       rfl
      refine take_ (i := 5) (N := some 60) (v := ?_) (a' := ?_) #[I, I, I, I, I, I, I, I, O, I, O, O, O, O] rfl rfl (take_ofW HT_.out HW_.out (by kernel_rfl)) (fun _ _ _ h => h) (Or.inl ⟨by rfl, ?_⟩) hHeld ?_ ?_
      rotate_left
      ·
       rintro w' ⟨s0, s1, s2, s3, s4, s5, s6, s7, s8, s9⟩
       go_simp
       with_reducible rfl
      rotate_left
      ·
       simp only [pk, i64_w, i32_w]
       rfl
      refine take_ (i := 8) (N := some 63) (v := ?_) (a' := ?_) #[I, I, I, I, I, I, I, I, I, I, O, O, O, O] rfl rfl (take_ofW HT_.out HW_.out (by kernel_rfl)) (fun _ _ _ h => h) (Or.inl ⟨by rfl, ?_⟩) hHeld ?_ ?_
      rotate_left
      ·
       rintro w' ⟨s0, s1, s2, s3, s4, s5, s6, s7, s8, s9⟩
       go_simp
       with_reducible rfl
      rotate_left
      ·
       simp only [pk, i64_w, i32_w]
       rfl
      refine pure_ (i := 10) (N := some 65) (v := ?_) (a' := ?_) #[I, I, I, I, I, I, I, I, I, I, I, O, O, O] rfl rfl (any_of HT_.out (by kernel_rfl)) (fun _ _ _ h => h) (Or.inl ⟨by rfl, ?_⟩) ?_ ?_
      rotate_left
      ·
       intro w'
       go_simp
       with_reducible rfl
      rotate_left
      ·
       simp only [pk, i64_w, i32_w]
       rfl
      refine take_ (i := 11) (N := some 66) (v := ?_) (a' := ?_) #[I, I, I, I, I, I, I, I, I, I, I, I, O, O] rfl rfl (take_ofW HT_.out HW_.out (by kernel_rfl)) (fun _ _ _ h => h) (Or.inl ⟨by rfl, ?_⟩) hHeld ?_ ?_
      rotate_left
      ·
       rintro w' ⟨s0, s1, s2, s3, s4, s5, s6, s7, s8, s9⟩
       go_simp
       with_reducible rfl
      rotate_left
      ·
       simp only [pk, i64_w, i32_w]
       rfl
      refine one_ (i := 12) (N := some 67) #[I, I, I, I, I, I, I, I, I, I, I, I, I, O] rfl rfl (one_of HT_.out (by kernel_rfl)) (by decide) (fun K hK => ?_)
      refine goes_ Tryd.func68 (by kernel_rfl) rfl #[.slice (some ad255) l0.length c0, .int .i64 (rd ((rd_T64 l0 a1).f3) x11_2), .slice (some ad257) l2.length c2, .int .i64 (rd ((rd_T64 l2 a3).f3) x11_2)] (by rfl) rfl rfl (by (try simp only [lm]); first | done | rfl | (simp only [List.length_drop, List.length_take]; rfl)) ?_
      with_reducible refine (ih k2 (by have := HJ8.out; have := HK2.out; omega) _ _ l0 (rd ((rd_T64 l0 a1).f3) x11_2) _ _ l2 (rd ((rd_T64 l2 a3).f3) x11_2) false _ ?side1 ?side2 ?side3 ?side4 A34.out).mono ?_
      (case side1 => exact Kd.C_below HR0.out (be w))
      (case side2 => exact HC0.out)
      (case side3 => exact Kd.C_below HR2.out (be w))
      (case side4 => exact HC2.out)
      rintro e w43 ⟨rfl, hb⟩
      refine ⟨_, rfl, ?_⟩
      replace BK256 := As.mk (blk_below (bx BK256.out) hb)
      replace BK258 := As.mk (blk_below (bx BK258.out) hb)
      replace HB := As.mk (below_step (be w) hb)
      (try clear hb)
      (try clear hb2)
      (try clear hk)
      (try clear hi)
      refine hK.out _ _ ⟨(blk_cell BK256.out 0).trans rfl, (blk_cell BK256.out 1).trans rfl, (blk_cell BK256.out 2).trans rfl, (blk_cell BK256.out 3).trans rfl, (blk_cell BK258.out 0).trans rfl, (blk_cell BK258.out 1).trans rfl, (blk_cell BK258.out 2).trans rfl, (blk_cell BK258.out 3).trans rfl, (ce HB.out hw259_0 :), (ce HB.out hw260_0 :)⟩ (fun hHeld => ?_)
      clear hK K
      refine norm_ (a' := ?_) ?_ ?_
      rotate_left
      ·
       show Act.put _ (some 67) _ = _
       simp only [pk, i64_w, i32_w]
       rfl
      refine pure_ (i := 13) (N := some 68) (v := ?_) (a' := ?_) #[I, I, I, I, I, I, I, I, I, I, I, I, I, I] rfl rfl (any_of HT_.out (by kernel_rfl)) (fun _ _ _ h => h) (Or.inl ⟨by rfl, ?_⟩) ?_ ?_
      rotate_left
      ·
       intro w'
       go_simp
       with_reducible rfl
      rotate_left
      ·
       simp only [pk, i64_w, i32_w]
       rfl
      refine done_ (done_of HT_.out (by kernel_rfl)) ?_
      try go_wp2
      go_ret
      exact ⟨by first | rfl | (simp [errW_none, errW_some] <;> rfl) | (simp [*, errW_none, errW_some] <;> rfl), be w⟩
     subst c35
     rw [if_pos rfl] at H
     have H' := As.mk H
     clear H
     have hnb36 := NB256_258.out
     have hnc36 := NB258_256.out
     obtain ⟨hcz37_0, hcz37_1, hcz37_2, hcz37_3, hfz37_0, hfz37_1, hfz37_2, hfz37_3⟩ := cl4 BK256.out
     try go_wp2
     replace BK256 := As.mk (blk_drew BK256.out)
     replace BK258 := As.mk (blk_drew BK258.out)
     replace HB := As.mk (below_drew1 HB.out)
     have p259 : 0 ≤ (x11_2 : Int) := of_decide_eq_true (by first | (with_reducible assumption) | assumption)
     have q259 : x11_2 < (((rd_T64 l0 a1).f3).length : Int) := of_decide_eq_true (by first | (with_reducible assumption) | assumption)
     obtain ⟨ad259, e259, hx259_0⟩ := Kd.at_int HR255_3.out x11_2 p259 q259
     have hw259_0 := hx259_0
     cases e259
     replace hx259_0 := ce HB.out hx259_0
     replace p259 := eq_true p259
     replace q259 := eq_true q259
     have p260 : 0 ≤ (x11_2 : Int) := of_decide_eq_true (by first | (with_reducible assumption) | assumption)
     have q260 : x11_2 < (((rd_T64 l2 a3).f3).length : Int) := of_decide_eq_true (by first | (with_reducible assumption) | assumption)
     obtain ⟨ad260, e260, hx260_0⟩ := Kd.at_int HR257_3.out x11_2 p260 q260
     have hw260_0 := hx260_0
     cases e260
     replace hx260_0 := ce HB.out hx260_0
     replace p260 := eq_true p260
     replace q260 := eq_true q260
     refine start_ (n := 14) (S := fun w' => w'.cell? ⟨gb256, 0, none⟩ = some (.int .i64 ((rd_T64 l0 a1).f0)) ∧ w'.cell? ⟨gb256, 1, none⟩ = some (.int .i64 ((rd_T64 l0 a1).f1)) ∧ w'.cell? ⟨gb256, 2, none⟩ = some (.string ((rd_T64 l0 a1).f2)) ∧ w'.cell? ⟨gb256, 3, none⟩ = some (.slice (some ad259) ((rd_T64 l0 a1).f3).length c255_3) ∧ w'.cell? ⟨gb258, 0, none⟩ = some (.int .i64 ((rd_T64 l2 a3).f0)) ∧ w'.cell? ⟨gb258, 1, none⟩ = some (.int .i64 ((rd_T64 l2 a3).f1)) ∧ w'.cell? ⟨gb258, 2, none⟩ = some (.string ((rd_T64 l2 a3).f2)) ∧ w'.cell? ⟨gb258, 3, none⟩ = some (.slice (some ad260) ((rd_T64 l2 a3).f3).length c257_3) ∧ w'.cell? (ad259.add (x11_2).toNat) = some (.int .i64 (rd ((rd_T64 l0 a1).f3) x11_2)) ∧ w'.cell? (ad260.add (x11_2).toNat) = some (.int .i64 (rd ((rd_T64 l2 a3).f3) x11_2))) (ds := []) #[O, O, O, O, O, O, O, O, O, O, O, O, O, O] (by kernel_rfl) rfl rfl ⟨(blk_cell BK256.out 0).trans rfl, (blk_cell BK256.out 1).trans rfl, (blk_cell BK256.out 2).trans rfl, (blk_cell BK256.out 3).trans rfl, (blk_cell BK258.out 0).trans rfl, (blk_cell BK258.out 1).trans rfl, (blk_cell BK258.out 2).trans rfl, (blk_cell BK258.out 3).trans rfl, (ce HB.out hw259_0 :), (ce HB.out hw260_0 :)⟩ (fun hHeld => ?_); refine with_tabW spec_l05Same.tab8 spec_l05Same.bits8 (fun HT_ HW_ => ?_)
     generalize wr.drew = w38 at BK256 BK258 HB hx259_0 hx260_0 hHeld ⊢
     refine pure_ (i := 0) (N := some 55) (v := ?_) (a' := ?_) #[I, O, O, O, O, O, O, O, O, O, O, O, O, O] rfl rfl (any_of HT_.out (by kernel_rfl)) (fun _ _ _ h => h) (Or.inl ⟨by rfl, ?_⟩) ?_ ?_
     rotate_left
     ·
      intro w'
      go_simp
      with_reducible rfl
     rotate_left
     ·
      simp only [pk, i64_w, i32_w]
      rfl
     refine pure_ (i := 1) (N := some 56) (v := ?_) (a' := ?_) #[I, I, O, O, O, O, O, O, O, O, O, O, O, O] rfl rfl (any_of HT_.out (by kernel_rfl)) (fun _ _ _ h => h) (Or.inl ⟨by rfl, ?_⟩) ?_ ?_
     rotate_left
     ·
      intro w'
      go_simp
      with_reducible rfl
     rotate_left
     ·
      simp only [pk, i64_w, i32_w]
      rfl
     refine pure_ (i := 3) (N := some 58) (v := ?_) (a' := ?_) #[I, I, O, I, O, O, O, O, O, O, O, O, O, O] rfl rfl (any_of HT_.out (by kernel_rfl)) (fun _ _ _ h => h) (Or.inl ⟨by rfl, ?_⟩) ?_ ?_
     rotate_left
     ·
      intro w'
      go_simp
      with_reducible rfl
     rotate_left
     ·
      simp only [pk, i64_w, i32_w]
      rfl
     refine pure_ (i := 6) (N := some 61) (v := ?_) (a' := ?_) #[I, I, O, I, O, O, I, O, O, O, O, O, O, O] rfl rfl (any_of HT_.out (by kernel_rfl)) (fun _ _ _ h => h) (Or.inl ⟨by rfl, ?_⟩) ?_ ?_
     rotate_left
     ·
      intro w'
      go_simp
      with_reducible rfl
     rotate_left
     ·
      simp only [pk, i64_w, i32_w]
      rfl
     refine pure_ (i := 7) (N := some 62) (v := ?_) (a' := ?_) #[I, I, O, I, O, O, I, I, O, O, O, O, O, O] rfl rfl (any_of HT_.out (by kernel_rfl)) (fun _ _ _ h => h) (Or.inl ⟨by rfl, ?_⟩) ?_ ?_
     rotate_left
     ·
      intro w'
      go_simp
      with_reducible rfl
     rotate_left
     ·
      simp only [pk, i64_w, i32_w]
      rfl
     refine pure_ (i := 9) (N := some 64) (v := ?_) (a' := ?_) #[I, I, O, I, O, O, I, I, O, I, O, O, O, O] rfl rfl (any_of HT_.out (by kernel_rfl)) (fun _ _ _ h => h) (Or.inl ⟨by rfl, ?_⟩) ?_ ?_
     rotate_left
     ·
      intro w'
      go_simp
      with_reducible rfl
     rotate_left
     ·
      simp only [pk, i64_w, i32_w]
      rfl
     refine take_ (i := 2) (N := some 57) (v := ?_) (a' := ?_) #[I, I, I, I, O, O, I, I, O, I, O, O, O, O] rfl rfl (take_ofW HT_.out HW_.out (by kernel_rfl)) (fun _ _ _ h => h) (Or.inl ⟨by rfl, ?_⟩) hHeld ?_ ?_
     rotate_left
     ·
      rintro w' ⟨s0, s1, s2, s3, s4, s5, s6, s7, s8, s9⟩
      go_simp
      with_reducible rfl
     rotate_left
     ·
      simp only [pk, i64_w, i32_w]
      rfl
     refine pure_ (i := 4) (N := some 59) (v := ?_) (a' := ?_) #[I, I, I, I, I, O, I, I, O, I, O, O, O, O] rfl rfl (any_of HT_.out (by kernel_rfl)) (fun _ _ _ h => h) (Or.inl ⟨by rfl, ?_⟩) ?_ ?_
     rotate_left
     ·
      intro w'
      go_simp
      with_reducible rfl
     rotate_left
     ·
      simp only [pk, i64_w, i32_w]
      rfl
     refine take_ (i := 5) (N := some 60) (v := ?_) (a' := ?_) #[I, I, I, I, I, I, I, I, O, I, O, O, O, O] rfl rfl (take_ofW HT_.out HW_.out (by kernel_rfl)) (fun _ _ _ h => h) (Or.inl ⟨by rfl, ?_⟩) hHeld ?_ ?_
     rotate_left
     ·
      rintro w' ⟨s0, s1, s2, s3, s4, s5, s6, s7, s8, s9⟩
      go_simp
      with_reducible rfl
     rotate_left
     ·
      simp only [pk, i64_w, i32_w]
      rfl
     refine take_ (i := 8) (N := some 63) (v := ?_) (a' := ?_) #[I, I, I, I, I, I, I, I, I, I, O, O, O, O] rfl rfl (take_ofW HT_.out HW_.out (by kernel_rfl)) (fun _ _ _ h => h) (Or.inl ⟨by rfl, ?_⟩) hHeld ?_ ?_
     rotate_left
     ·
      rintro w' ⟨s0, s1, s2, s3, s4, s5, s6, s7, s8, s9⟩
      go_simp
      with_reducible rfl
     rotate_left
     ·
      simp only [pk, i64_w, i32_w]
      rfl
     refine pure_ (i := 10) (N := some 65) (v := ?_) (a' := ?_) #[I, I, I, I, I, I, I, I, I, I, I, O, O, O] rfl rfl (any_of HT_.out (by kernel_rfl)) (fun _ _ _ h => h) (Or.inl ⟨by rfl, ?_⟩) ?_ ?_
     rotate_left
     ·
      intro w'
      go_simp
      with_reducible rfl
     rotate_left
     ·
      simp only [pk, i64_w, i32_w]
      rfl
     refine take_ (i := 11) (N := some 66) (v := ?_) (a' := ?_) #[I, I, I, I, I, I, I, I, I, I, I, I, O, O] rfl rfl (take_ofW HT_.out HW_.out (by kernel_rfl)) (fun _ _ _ h => h) (Or.inl ⟨by rfl, ?_⟩) hHeld ?_ ?_
     rotate_left
     ·
      rintro w' ⟨s0, s1, s2, s3, s4, s5, s6, s7, s8, s9⟩
      go_simp
      with_reducible rfl
     rotate_left
     ·
      simp only [pk, i64_w, i32_w]
      rfl
     refine one_ (i := 12) (N := some 67) #[I, I, I, I, I, I, I, I, I, I, I, I, I, O] rfl rfl (one_of HT_.out (by kernel_rfl)) (by decide) (fun K hK => ?_)
     refine goes_ Tryd.func68 (by kernel_rfl) rfl #[.slice (some ad255) l0.length c0, .int .i64 (rd ((rd_T64 l0 a1).f3) x11_2), .slice (some ad257) l2.length c2, .int .i64 (rd ((rd_T64 l2 a3).f3) x11_2)] (by rfl) rfl rfl (by (try simp only [lm]); first | done | rfl | (simp only [List.length_drop, List.length_take]; rfl)) ?_
     with_reducible refine (ih k2 (by have := HJ8.out; have := HK2.out; omega) _ _ l0 (rd ((rd_T64 l0 a1).f3) x11_2) _ _ l2 (rd ((rd_T64 l2 a3).f3) x11_2) true _ ?side1 ?side2 ?side3 ?side4 A34.out).mono ?_
     (case side1 => exact Kd.C_below HR0.out (be w))
     (case side2 => exact HC0.out)
     (case side3 => exact Kd.C_below HR2.out (be w))
     (case side4 => exact HC2.out)
     rintro e w39 ⟨rfl, hb⟩
     refine ⟨_, rfl, ?_⟩
     replace BK256 := As.mk (blk_below (bx BK256.out) hb)
     replace BK258 := As.mk (blk_below (bx BK258.out) hb)
     replace HB := As.mk (below_step (be w) hb)
     (try clear hb)
     (try clear hb2)
     (try clear hk)
     (try clear hi)
     refine hK.out _ _ ⟨(blk_cell BK256.out 0).trans rfl, (blk_cell BK256.out 1).trans rfl, (blk_cell BK256.out 2).trans rfl, (blk_cell BK256.out 3).trans rfl, (blk_cell BK258.out 0).trans rfl, (blk_cell BK258.out 1).trans rfl, (blk_cell BK258.out 2).trans rfl, (blk_cell BK258.out 3).trans rfl, (ce HB.out hw259_0 :), (ce HB.out hw260_0 :)⟩ (fun hHeld => ?_)
     clear hK K
     refine norm_ (a' := ?_) ?_ ?_
     rotate_left
     ·
      show Act.put _ (some 67) _ = _
      simp only [pk, i64_w, i32_w]
      rfl
     refine pure_ (i := 13) (N := some 68) (v := ?_) (a' := ?_) #[I, I, I, I, I, I, I, I, I, I, I, I, I, I] rfl rfl (any_of HT_.out (by kernel_rfl)) (fun _ _ _ h => h) (Or.inl ⟨by rfl, ?_⟩) ?_ ?_
     rotate_left
     ·
      intro w'
      go_simp
      with_reducible rfl
     rotate_left
     ·
      simp only [pk, i64_w, i32_w]
      rfl
     refine done_ (done_of HT_.out (by kernel_rfl)) ?_
     try go_wp2
     go_roundg k2
     case measure => have := HJ8.out; have := HK2.out; omega
     case rel => exact ⟨(wrap64 (x11_2 + 1)), (by first | rfl | (simp; done) | (simp [*]; done)), H', ⟨by have := HJ8.out; have := HK2.out; omega⟩, ⟨bx BK256.out⟩, ⟨bx BK258.out⟩, ⟨be w⟩⟩
/-! ### spec_SameTree: function 30 -/
def spec_SameTree.f (k : Nat) (l0_0 : List (S64)) (l0_1 : List (S93)) (a1 : Int) (l2_0 : List (S64)) (l2_1 : List (S93)) (a3 : Int) : Option (Bool) := (spec_DeepOf.f k l0_0 a1).bind fun t264 => (if t264 > 0 then ((spec_DeepOf.f k l2_0 a3).bind fun t265 => (if t265 > 0 then ((spec_l05Same.f k l0_0 a1 l2_0 a3).bind fun t266 => (some t266)) else (some false))) else (some false))
theorem spec_SameTree.mono : ∀ a0 a1 a2 a3 a4 a5 k, LeO (spec_SameTree.f k a0 a1 a2 a3 a4 a5) (spec_SameTree.f (k + 1) a0 a1 a2 a3 a4 a5) := by
 intro a0 a1 a2 a3 a4 a5 k
 unfold spec_SameTree.f
 with_reducible repeat' first | exact spec_DeepOf.mono _ _ _ | exact spec_l05Same.mono _ _ _ _ _ | exact LeO.refl _ | exact LeO.none _ | refine LeO.ite ?_ ?_ | refine LeO.bind ?_ (fun _ => ?_)
set_option maxHeartbeats 8000000 in
set_option maxRecDepth 100000 in
theorem spec_SameTree.calls (k : Nat) (A0_0 : Option Addr) (c0_0 : Nat) (l0_0 : List (S64)) (A0_1 : Option Addr) (c0_1 : Nat) (l0_1 : List (S93)) (a1 : Int) (A2_0 : Option Addr) (c2_0 : Nat) (l2_0 : List (S64)) (A2_1 : Option Addr) (c2_1 : Nat) (l2_1 : List (S93)) (a3 : Int) (r : Bool) (w : World) (hr0_0 : Kd.C k64 w A0_0 l0_0.length l0_0) (hc0_0 : l0_0.length ≤ c0_0) (hr0_1 : Kd.C k93 w A0_1 l0_1.length l0_1) (hc0_1 : l0_1.length ≤ c0_1) (hr2_0 : Kd.C k64 w A2_0 l2_0.length l2_0) (hc2_0 : l2_0.length ≤ c2_0) (hr2_1 : Kd.C k93 w A2_1 l2_1.length l2_1) (hc2_1 : l2_1.length ≤ c2_1) (h : spec_SameTree.f k l0_0 l0_1 a1 l2_0 l2_1 a3 = some r) :
  Calls Tryd.prog 30 #[.agg #[.slice A0_0 l0_0.length c0_0, .slice A0_1 l0_1.length c0_1], .int .i64 a1, .agg #[.slice A2_0 l2_0.length c2_0, .slice A2_1 l2_1.length c2_1], .int .i64 a3] w fun e w' => e = .returned (.bool r) ∧ Below w.heap.size w w' := by
 have hu52 := Tryd.underlying52
 have HR0_0 := As.mk hr0_0
 have HC0_0 := As.mk hc0_0
 clear hr0_0 hc0_0
 have HR0_1 := As.mk hr0_1
 have HC0_1 := As.mk hc0_1
 clear hr0_1 hc0_1
 have HR2_0 := As.mk hr2_0
 have HC2_0 := As.mk hc2_0
 clear hr2_0 hc2_0
 have HR2_1 := As.mk hr2_1
 have HC2_1 := As.mk hc2_1
 clear hr2_1 hc2_1
 have HB := As.mk (Below.refl w.heap.size w)
 have H : ((spec_DeepOf.f k l0_0 a1).bind fun t264 => (if t264 > 0 then ((spec_DeepOf.f k l2_0 a3).bind fun t265 => (if t265 > 0 then ((spec_l05Same.f k l0_0 a1 l2_0 a3).bind fun t266 => (some t266)) else (some false))) else (some false))) = some r := h
 clear h
 obtain ⟨t264, A50, H⟩ := Option.bind_eq_some_iff.mp H
 try dsimp only at H
 have A5 := As.mk A50
 clear A50
 by_cases c6 : t264 > 0
 rotate_left
 ·
  rw [if_neg c6] at H
  have c6b0 : decide (0 < t264) = false := decide_eq_false c6
  clear c6
  obtain rfl := Option.some.inj H
  go_enter Tryd.func30, Tryd.ntmps30
  go_wp2_with (first | ((with_reducible refine gate_dst (N := 4) rfl ?_); refine box_event ?hg (N := 4) ?hd (cs := #[.slice A0_0 l0_0.length c0_0, .slice A0_1 l0_1.length c0_1]) (t := 52) ?hr ?_; (case hd => rfl); (case hg => rfl); (case hr => first | (go_simp; done) | (go_simp; rfl)); intro gb262 hg w27 hbox hb; have BK262 := As.mk (hbox); have GW262 := As.mk (gs w hg); have GE262 := As.mk (gs w hg); replace HB := As.mk (below_step (be w) hb); clear hb hbox hg) | ((with_reducible refine gate_dst (N := 6) rfl ?_); refine box_event ?hg (N := 6) ?hd (cs := #[.slice A2_0 l2_0.length c2_0, .slice A2_1 l2_1.length c2_1]) (t := 52) ?hr ?_; (case hd => rfl); (case hg => rfl); (case hr => first | (go_simp; done) | (go_simp; rfl)); intro gb263 hg w28 hbox hb; have BK263 := As.mk (hbox); have GW263 := As.mk (gs w hg); have GE263 := As.mk (gs w hg); replace HB := As.mk (below_step (be w) hb); have NB262_263 := As.mk (nl hg (bx BK262.out)); have NB263_262 := As.mk (ng hg (bx BK262.out)); replace BK262 := As.mk (blk_below (bx BK262.out) hb); clear hb hbox hg; obtain ⟨hcz29_0, hcz29_1, hfz29_0, hfz29_1⟩ := cl2 BK262.out) | ((with_reducible refine gate_callee (f := 17) rfl ?_); refine goesL_ (some 12) rfl rfl Tryd.func17 (by kernel_rfl) rfl #[.slice A0_0 l0_0.length c0_0, .int .i64 a1] rfl (by (try simp only [lm]); first | done | rfl | (simp only [List.length_drop, List.length_take]; rfl)) ?_; (with_reducible refine (spec_DeepOf.calls k _ _ l0_0 a1 t264 _ ?side1 ?side2 A5.out).mono ?_); (case side1 => exact Kd.C_below HR0_0.out (be w)); (case side2 => exact HC0_0.out); rintro e w30 ⟨rfl, hb⟩; refine ⟨_, rfl, ?_⟩; replace HB := As.mk (below_step (be w) hb); (try clear hb); (try clear hb2); (try clear hk); (try clear hi)))
  go_ret
  exact ⟨by first | rfl | (simp [errW_none, errW_some] <;> rfl) | (simp [*, errW_none, errW_some] <;> rfl), be w⟩

 rw [if_pos c6] at H
 have c6b0 : decide (0 < t264) = true := decide_eq_true c6
 clear c6
 obtain ⟨t265, A70, H⟩ := Option.bind_eq_some_iff.mp H
 try dsimp only at H
 have A7 := As.mk A70
 clear A70
 by_cases c8 : t265 > 0
 rotate_left
 ·
  rw [if_neg c8] at H
  have c8b0 : decide (0 < t265) = false := decide_eq_false c8
  clear c8
  obtain rfl := Option.some.inj H
  go_enter Tryd.func30, Tryd.ntmps30
  go_wp2_with (first | ((with_reducible refine gate_dst (N := 4) rfl ?_); refine box_event ?hg (N := 4) ?hd (cs := #[.slice A0_0 l0_0.length c0_0, .slice A0_1 l0_1.length c0_1]) (t := 52) ?hr ?_; (case hd => rfl); (case hg => rfl); (case hr => first | (go_simp; done) | (go_simp; rfl)); intro gb262 hg w20 hbox hb; have BK262 := As.mk (hbox); have GW262 := As.mk (gs w hg); have GE262 := As.mk (gs w hg); replace HB := As.mk (below_step (be w) hb); clear hb hbox hg) | ((with_reducible refine gate_dst (N := 6) rfl ?_); refine box_event ?hg (N := 6) ?hd (cs := #[.slice A2_0 l2_0.length c2_0, .slice A2_1 l2_1.length c2_1]) (t := 52) ?hr ?_; (case hd => rfl); (case hg => rfl); (case hr => first | (go_simp; done) | (go_simp; rfl)); intro gb263 hg w21 hbox hb; have BK263 := As.mk (hbox); have GW263 := As.mk (gs w hg); have GE263 := As.mk (gs w hg); replace HB := As.mk (below_step (be w) hb); have NB262_263 := As.mk (nl hg (bx BK262.out)); have NB263_262 := As.mk (ng hg (bx BK262.out)); replace BK262 := As.mk (blk_below (bx BK262.out) hb); clear hb hbox hg; have hnb22 := NB262_263.out; have hnc22 := NB263_262.out; obtain ⟨hcz23_0, hcz23_1, hfz23_0, hfz23_1⟩ := cl2 BK262.out) | ((with_reducible refine gate_callee (f := 17) rfl ?_); refine goesL_ (some 12) rfl rfl Tryd.func17 (by kernel_rfl) rfl #[.slice A0_0 l0_0.length c0_0, .int .i64 a1] rfl (by (try simp only [lm]); first | done | rfl | (simp only [List.length_drop, List.length_take]; rfl)) ?_; (with_reducible refine (spec_DeepOf.calls k _ _ l0_0 a1 t264 _ ?side1 ?side2 A5.out).mono ?_); (case side1 => exact Kd.C_below HR0_0.out (be w)); (case side2 => exact HC0_0.out); rintro e w24 ⟨rfl, hb⟩; refine ⟨_, rfl, ?_⟩; replace BK263 := As.mk (blk_below (bx BK263.out) hb); replace HB := As.mk (below_step (be w) hb); (try clear hb); (try clear hb2); (try clear hk); (try clear hi); obtain ⟨hcz25_0, hcz25_1, hfz25_0, hfz25_1⟩ := cl2 BK263.out) | (go_at_call 17; (with_reducible refine (spec_DeepOf.calls k _ _ l2_0 a3 t265 _ ?side1 ?side2 A7.out).mono ?_); (case side1 => exact Kd.C_below HR2_0.out (be w)); (case side2 => exact HC2_0.out); rintro e w26 ⟨rfl, hb⟩; replace HB := As.mk (below_step (be w) hb); (try clear hb); (try clear hb2); (try clear hk); (try clear hi)))
  go_ret
  exact ⟨by first | rfl | (simp [errW_none, errW_some] <;> rfl) | (simp [*, errW_none, errW_some] <;> rfl), be w⟩
 rw [if_pos c8] at H
 have c8b0 : decide (0 < t265) = true := decide_eq_true c8
 clear c8
 obtain ⟨t266, A90, H⟩ := Option.bind_eq_some_iff.mp H
 try dsimp only at H
 have A9 := As.mk A90
 clear A90
 obtain rfl := Option.some.inj H
 go_enter Tryd.func30, Tryd.ntmps30
 go_wp2_with (first | ((with_reducible refine gate_dst (N := 4) rfl ?_); refine box_event ?hg (N := 4) ?hd (cs := #[.slice A0_0 l0_0.length c0_0, .slice A0_1 l0_1.length c0_1]) (t := 52) ?hr ?_; (case hd => rfl); (case hg => rfl); (case hr => first | (go_simp; done) | (go_simp; rfl)); intro gb262 hg w10 hbox hb; have BK262 := As.mk (hbox); have GW262 := As.mk (gs w hg); have GE262 := As.mk (gs w hg); replace HB := As.mk (below_step (be w) hb); clear hb hbox hg) | ((with_reducible refine gate_dst (N := 6) rfl ?_); refine box_event ?hg (N := 6) ?hd (cs := #[.slice A2_0 l2_0.length c2_0, .slice A2_1 l2_1.length c2_1]) (t := 52) ?hr ?_; (case hd => rfl); (case hg => rfl); (case hr => first | (go_simp; done) | (go_simp; rfl)); intro gb263 hg w11 hbox hb; have BK263 := As.mk (hbox); have GW263 := As.mk (gs w hg); have GE263 := As.mk (gs w hg); replace HB := As.mk (below_step (be w) hb); have NB262_263 := As.mk (nl hg (bx BK262.out)); have NB263_262 := As.mk (ng hg (bx BK262.out)); replace BK262 := As.mk (blk_below (bx BK262.out) hb); clear hb hbox hg; have hnb12 := NB262_263.out; have hnc12 := NB263_262.out; obtain ⟨hcz13_0, hcz13_1, hfz13_0, hfz13_1⟩ := cl2 BK262.out) | ((with_reducible refine gate_callee (f := 17) rfl ?_); refine goesL_ (some 12) rfl rfl Tryd.func17 (by kernel_rfl) rfl #[.slice A0_0 l0_0.length c0_0, .int .i64 a1] rfl (by (try simp only [lm]); first | done | rfl | (simp only [List.length_drop, List.length_take]; rfl)) ?_; (with_reducible refine (spec_DeepOf.calls k _ _ l0_0 a1 t264 _ ?side1 ?side2 A5.out).mono ?_); (case side1 => exact Kd.C_below HR0_0.out (be w)); (case side2 => exact HC0_0.out); rintro e w14 ⟨rfl, hb⟩; refine ⟨_, rfl, ?_⟩; replace BK262 := As.mk (blk_below (bx BK262.out) hb); replace BK263 := As.mk (blk_below (bx BK263.out) hb); replace HB := As.mk (below_step (be w) hb); (try clear hb); (try clear hb2); (try clear hk); (try clear hi); obtain ⟨hcz15_0, hcz15_1, hfz15_0, hfz15_1⟩ := cl2 BK263.out) | (go_at_call 17; (with_reducible refine (spec_DeepOf.calls k _ _ l2_0 a3 t265 _ ?side1 ?side2 A7.out).mono ?_); (case side1 => exact Kd.C_below HR2_0.out (be w)); (case side2 => exact HC2_0.out); rintro e w16 ⟨rfl, hb⟩; replace BK262 := As.mk (blk_below (bx BK262.out) hb); replace BK263 := As.mk (blk_below (bx BK263.out) hb); replace HB := As.mk (below_step (be w) hb); (try clear hb); (try clear hb2); (try clear hk); (try clear hi); obtain ⟨hcz17_0, hcz17_1, hfz17_0, hfz17_1⟩ := cl2 BK262.out; obtain ⟨hcz18_0, hcz18_1, hfz18_0, hfz18_1⟩ := cl2 BK263.out) | (go_at_call 68; (with_reducible refine (spec_l05Same.calls k _ _ l0_0 a1 _ _ l2_0 a3 t266 _ ?side1 ?side2 ?side3 ?side4 A9.out).mono ?_); (case side1 => exact Kd.C_below HR0_0.out (be w)); (case side2 => exact HC0_0.out); (case side3 => exact Kd.C_below HR2_0.out (be w)); (case side4 => exact HC2_0.out); rintro e w19 ⟨rfl, hb⟩; replace HB := As.mk (below_step (be w) hb); (try clear hb); (try clear hb2); (try clear hk); (try clear hi)))
 go_ret
 exact ⟨by first | rfl | (simp [errW_none, errW_some] <;> rfl) | (simp [*, errW_none, errW_some] <;> rfl), be w⟩
end Go.Proofs.YtmdpggibcjkfoaaDoor.PFnExactSameProgram
