/- Written by a program of this session (a turned copy of the kit's print): a contract for each Go function. No condition beside those in each statement. -/
import Derived.Test.YtmdpggibcjkfoaaDoorPFnExactSameTreex0
namespace Go.Proofs.YtmdpggibcjkfoaaDoor.PFnExactSameTree
open Go.RowKit Go.Proofs.YtmdpggibcjkfoaaDoor.Given Go.Proofs.YtmdpggibcjkfoaaDoorW.PrintWords Go.Proofs.YtmdpggibcjkfoaaDoorW.PrintLast Go.Proofs.YtmdpggibcjkfoaaDoorW.PrintMore
attribute [local go_sem] max2_int min2_int max_two min_two max_three min_three max_four min_four   -- for this text's walks alone
set_option linter.unusedVariables false
set_option linter.unusedSimpArgs false

/-! ### impl_sameTree: function 70 -/
mutual
def impl_sameTree.j0 : Nat → Bool → List (S64) → List (S93) → List (S64) → List (S93) → Int → Int → ByteArray → List Int → Int → Int → ByteArray → List Int → Option (Bool)
 | 0, _, _, _, _, _, _, _, _, _, _, _, _, _ => none
 | k + 1, x49, x291000, x291001, x292000, x292001, x295000, x295001, x295002, x295003, x296000, x296001, x296002, x296003 => if x49 = true then (some false) else (impl_sameTree.l0 k (x295003.length : Int) 0 x291000 x291001 x292000 x292001 x295000 x295001 x295002 x295003 x296000 x296001 x296002 x296003)
def impl_sameTree.l0 : Nat → Int → Int → List (S64) → List (S93) → List (S64) → List (S93) → Int → Int → ByteArray → List Int → Int → Int → ByteArray → List Int → Option (Bool)
 | 0, _, _, _, _, _, _, _, _, _, _, _, _, _, _ => none
 | k + 1, x52, x53, x291000, x291001, x292000, x292001, x295000, x295001, x295002, x295003, x296000, x296001, x296002, x296003 => if x53 < x52 then (if 0 ≤ x53 then (if x53 < (x295003.length : Int) then (if x53 < (x296003.length : Int) then ((impl_sameTree.f k x291000 x291001 (rd x295003 x53) x292000 x292001 (rd x296003 x53)).bind fun t298 => (if t298 = true then (impl_sameTree.l0 k x52 (wrap64 (x53 + 1)) x291000 x291001 x292000 x292001 x295000 x295001 x295002 x295003 x296000 x296001 x296002 x296003) else (some false))) else (none)) else (none)) else (none)) else (some true)
def impl_sameTree.f : Nat → List (S64) → List (S93) → Int → List (S64) → List (S93) → Int → Option (Bool)
 | 0, _, _, _, _, _, _ => none
 | k + 1, l0_0, l0_1, a1, l2_0, l2_1, a3 => if 0 ≤ a1 then (if a1 < (l0_0.length : Int) then (if 0 ≤ a3 then (if a3 < (l2_0.length : Int) then (if ((rd_T64 l0_0 a1).f0) = ((rd_T64 l2_0 a3).f0) then (if ((rd_T64 l0_0 a1).f1) = ((rd_T64 l2_0 a3).f1) then (if ((rd_T64 l0_0 a1).f2).toList = ((rd_T64 l2_0 a3).f2).toList then (impl_sameTree.j0 k ((((rd_T64 l0_0 a1).f3).length : Int) != (((rd_T64 l2_0 a3).f3).length : Int)) l0_0 l0_1 l2_0 l2_1 ((rd_T64 l0_0 a1).f0) ((rd_T64 l0_0 a1).f1) ((rd_T64 l0_0 a1).f2) ((rd_T64 l0_0 a1).f3) ((rd_T64 l2_0 a3).f0) ((rd_T64 l2_0 a3).f1) ((rd_T64 l2_0 a3).f2) ((rd_T64 l2_0 a3).f3)) else (impl_sameTree.j0 k true l0_0 l0_1 l2_0 l2_1 ((rd_T64 l0_0 a1).f0) ((rd_T64 l0_0 a1).f1) ((rd_T64 l0_0 a1).f2) ((rd_T64 l0_0 a1).f3) ((rd_T64 l2_0 a3).f0) ((rd_T64 l2_0 a3).f1) ((rd_T64 l2_0 a3).f2) ((rd_T64 l2_0 a3).f3))) else (impl_sameTree.j0 k true l0_0 l0_1 l2_0 l2_1 ((rd_T64 l0_0 a1).f0) ((rd_T64 l0_0 a1).f1) ((rd_T64 l0_0 a1).f2) ((rd_T64 l0_0 a1).f3) ((rd_T64 l2_0 a3).f0) ((rd_T64 l2_0 a3).f1) ((rd_T64 l2_0 a3).f2) ((rd_T64 l2_0 a3).f3))) else (impl_sameTree.j0 k true l0_0 l0_1 l2_0 l2_1 ((rd_T64 l0_0 a1).f0) ((rd_T64 l0_0 a1).f1) ((rd_T64 l0_0 a1).f2) ((rd_T64 l0_0 a1).f3) ((rd_T64 l2_0 a3).f0) ((rd_T64 l2_0 a3).f1) ((rd_T64 l2_0 a3).f2) ((rd_T64 l2_0 a3).f3))) else (none)) else (none)) else (none)) else (none)
end
theorem impl_sameTree.mono_l : ∀ k, (∀ y0 y1 y2 y3 y4 y5, LeO (impl_sameTree.f k y0 y1 y2 y3 y4 y5) (impl_sameTree.f (k + 1) y0 y1 y2 y3 y4 y5)) ∧ (∀ y0 y1 y2 y3 y4 y5 y6 y7 y8 y9 y10 y11 y12, LeO (impl_sameTree.j0 k y0 y1 y2 y3 y4 y5 y6 y7 y8 y9 y10 y11 y12) (impl_sameTree.j0 (k + 1) y0 y1 y2 y3 y4 y5 y6 y7 y8 y9 y10 y11 y12)) ∧ (∀ y0 y1 y2 y3 y4 y5 y6 y7 y8 y9 y10 y11 y12 y13, LeO (impl_sameTree.l0 k y0 y1 y2 y3 y4 y5 y6 y7 y8 y9 y10 y11 y12 y13) (impl_sameTree.l0 (k + 1) y0 y1 y2 y3 y4 y5 y6 y7 y8 y9 y10 y11 y12 y13))
 | 0 => ⟨fun _ _ _ _ _ _ r h => by simp [impl_sameTree.f] at h, fun _ _ _ _ _ _ _ _ _ _ _ _ _ r h => by simp [impl_sameTree.j0] at h, fun _ _ _ _ _ _ _ _ _ _ _ _ _ _ r h => by simp [impl_sameTree.l0] at h⟩
 | k + 1 => by
  obtain ⟨ih0, ih1, ih2⟩ := impl_sameTree.mono_l k
  refine ⟨?_, ?_, ?_⟩
  ·
   intro y0 y1 y2 y3 y4 y5
   unfold impl_sameTree.f
   with_reducible repeat' first | exact ih0 _ _ _ _ _ _ | exact ih1 _ _ _ _ _ _ _ _ _ _ _ _ _ | exact ih2 _ _ _ _ _ _ _ _ _ _ _ _ _ _ | exact LeO.refl _ | exact LeO.none _ | refine LeO.ite ?_ ?_ | refine LeO.bind ?_ (fun _ => ?_)
  ·
   intro y0 y1 y2 y3 y4 y5 y6 y7 y8 y9 y10 y11 y12
   unfold impl_sameTree.j0
   with_reducible repeat' first | exact ih0 _ _ _ _ _ _ | exact ih1 _ _ _ _ _ _ _ _ _ _ _ _ _ | exact ih2 _ _ _ _ _ _ _ _ _ _ _ _ _ _ | exact LeO.refl _ | exact LeO.none _ | refine LeO.ite ?_ ?_ | refine LeO.bind ?_ (fun _ => ?_)
  ·
   intro y0 y1 y2 y3 y4 y5 y6 y7 y8 y9 y10 y11 y12 y13
   unfold impl_sameTree.l0
   with_reducible repeat' first | exact ih0 _ _ _ _ _ _ | exact ih1 _ _ _ _ _ _ _ _ _ _ _ _ _ | exact ih2 _ _ _ _ _ _ _ _ _ _ _ _ _ _ | exact LeO.refl _ | exact LeO.none _ | refine LeO.ite ?_ ?_ | refine LeO.bind ?_ (fun _ => ?_)
theorem impl_sameTree.mono : ∀ a0 a1 a2 a3 a4 a5 k, LeO (impl_sameTree.f k a0 a1 a2 a3 a4 a5) (impl_sameTree.f (k + 1) a0 a1 a2 a3 a4 a5) := by
 intro a0 a1 a2 a3 a4 a5 k
 obtain ⟨ih0, ih1, ih2⟩ := impl_sameTree.mono_l k
 exact ih0 a0 a1 a2 a3 a4 a5
def impl_sameTree.T1 : Bool × List (List Nat × List Nat) := (true, [([], []), ([0], [0]), ([], []), ([1, 2], [1, 2]), ([3], [3]), ([], []), ([5], [5]), ([], []), ([6, 7], [6, 7]), ([8], [8]), ([], []), ([], []), ([10, 4, 0, 1, 2, 3, 4, 10, 11], [4, 10]), ([11, 9, 12, 0, 1, 2, 3, 4, 5, 6, 7, 8, 9, 10, 11, 12], [9, 11])])
def impl_sameTree.B1 : List Nat := [0, 1, 0, 7, 15, 0, 32, 0, 224, 480, 0, 0, 3103, 8191]
theorem impl_sameTree.tab1 : rtab .any (opsOf Tryd.f70 1) = impl_sameTree.T1 := by kernel_rfl
theorem impl_sameTree.bits1 : waitsOk impl_sameTree.T1.2 impl_sameTree.B1 = true := by kernel_rfl
def impl_sameTree.T7 : Bool × List (List Nat × List Nat) := (true, [([], []), ([], []), ([1], [1]), ([], []), ([2, 3], [2, 3]), ([4], [4]), ([], []), ([], []), ([7], [7]), ([], []), ([8, 9], [8, 9]), ([10], [10]), ([0, 5, 6, 11], [0, 5, 6, 11]), ([12], [12])])
def impl_sameTree.B7 : List Nat := [0, 0, 2, 0, 14, 30, 0, 0, 128, 0, 896, 1920, 4095, 8191]
theorem impl_sameTree.tab7 : rtab .any (opsOf Tryd.f70 7) = impl_sameTree.T7 := by kernel_rfl
theorem impl_sameTree.bits7 : waitsOk impl_sameTree.T7.2 impl_sameTree.B7 = true := by kernel_rfl
set_option maxHeartbeats 8000000 in
set_option maxRecDepth 100000 in
theorem impl_sameTree.calls (k : Nat) : ∀ (A0_0 : Option Addr) (c0_0 : Nat) (l0_0 : List (S64)) (A0_1 : Option Addr) (c0_1 : Nat) (l0_1 : List (S93)) (a1 : Int) (A2_0 : Option Addr) (c2_0 : Nat) (l2_0 : List (S64)) (A2_1 : Option Addr) (c2_1 : Nat) (l2_1 : List (S93)) (a3 : Int) (r : Bool) (w : World) (hr0_0 : Kd.C k64 w A0_0 l0_0.length l0_0) (hc0_0 : l0_0.length ≤ c0_0) (hr0_1 : Kd.C k93 w A0_1 l0_1.length l0_1) (hc0_1 : l0_1.length ≤ c0_1) (hr2_0 : Kd.C k64 w A2_0 l2_0.length l2_0) (hc2_0 : l2_0.length ≤ c2_0) (hr2_1 : Kd.C k93 w A2_1 l2_1.length l2_1) (hc2_1 : l2_1.length ≤ c2_1) (h : impl_sameTree.f k l0_0 l0_1 a1 l2_0 l2_1 a3 = some r),
  Calls Tryd.prog 70 #[.agg #[.slice A0_0 l0_0.length c0_0, .slice A0_1 l0_1.length c0_1], .int .i64 a1, .agg #[.slice A2_0 l2_0.length c2_0, .slice A2_1 l2_1.length c2_1], .int .i64 a3] w fun e w' => e = .returned (.bool r) ∧ Below w.heap.size w w' := by
 induction k using Nat.strongRecOn with
 | _ k ih =>
 intro A0_0 c0_0 l0_0 A0_1 c0_1 l0_1 a1 A2_0 c2_0 l2_0 A2_1 c2_1 l2_1 a3 r w hr0_0 hc0_0 hr0_1 hc0_1 hr2_0 hc2_0 hr2_1 hc2_1 h
 cases k with
 | zero => exact absurd h (by simp [impl_sameTree.f])
 | succ k =>
 simp only [impl_sameTree.f] at h
 have hu52 := Tryd.underlying52
 have hu64 := Tryd.underlying64
 have HR0_0 := As.mk hr0_0
 have HC0_0 := As.mk hc0_0
 clear hr0_0 hc0_0
 have HR0_1 := As.mk hr0_1
 have HC0_1 := As.mk hc0_1
 clear hr0_1 hc0_1
 have HR2_0 := As.mk hr2_0
 have HC2_0 := As.mk hc2_0
 clear hr2_0 hc2_0
 have HR2_1 := As.mk hr2_1
 have HC2_1 := As.mk hc2_1
 clear hr2_1 hc2_1
 have HB := As.mk (Below.refl w.heap.size w)
 have H : (if 0 ≤ a1 then (if a1 < (l0_0.length : Int) then (if 0 ≤ a3 then (if a3 < (l2_0.length : Int) then (if ((rd_T64 l0_0 a1).f0) = ((rd_T64 l2_0 a3).f0) then (if ((rd_T64 l0_0 a1).f1) = ((rd_T64 l2_0 a3).f1) then (if ((rd_T64 l0_0 a1).f2).toList = ((rd_T64 l2_0 a3).f2).toList then (impl_sameTree.j0 k ((((rd_T64 l0_0 a1).f3).length : Int) != (((rd_T64 l2_0 a3).f3).length : Int)) l0_0 l0_1 l2_0 l2_1 ((rd_T64 l0_0 a1).f0) ((rd_T64 l0_0 a1).f1) ((rd_T64 l0_0 a1).f2) ((rd_T64 l0_0 a1).f3) ((rd_T64 l2_0 a3).f0) ((rd_T64 l2_0 a3).f1) ((rd_T64 l2_0 a3).f2) ((rd_T64 l2_0 a3).f3)) else (impl_sameTree.j0 k true l0_0 l0_1 l2_0 l2_1 ((rd_T64 l0_0 a1).f0) ((rd_T64 l0_0 a1).f1) ((rd_T64 l0_0 a1).f2) ((rd_T64 l0_0 a1).f3) ((rd_T64 l2_0 a3).f0) ((rd_T64 l2_0 a3).f1) ((rd_T64 l2_0 a3).f2) ((rd_T64 l2_0 a3).f3))) else (impl_sameTree.j0 k true l0_0 l0_1 l2_0 l2_1 ((rd_T64 l0_0 a1).f0) ((rd_T64 l0_0 a1).f1) ((rd_T64 l0_0 a1).f2) ((rd_T64 l0_0 a1).f3) ((rd_T64 l2_0 a3).f0) ((rd_T64 l2_0 a3).f1) ((rd_T64 l2_0 a3).f2) ((rd_T64 l2_0 a3).f3))) else (impl_sameTree.j0 k true l0_0 l0_1 l2_0 l2_1 ((rd_T64 l0_0 a1).f0) ((rd_T64 l0_0 a1).f1) ((rd_T64 l0_0 a1).f2) ((rd_T64 l0_0 a1).f3) ((rd_T64 l2_0 a3).f0) ((rd_T64 l2_0 a3).f1) ((rd_T64 l2_0 a3).f2) ((rd_T64 l2_0 a3).f3))) else (none)) else (none)) else (none)) else (none)) = some r := h
 clear h
 by_cases c5 : 0 ≤ a1
 rotate_left
 ·
  rw [if_neg c5] at H
  exact absurd H (by simp)

 rw [if_pos c5] at H
 have c5b0 : decide (0 ≤ a1) = true := decide_eq_true c5
 clear c5
 by_cases c6 : a1 < (l0_0.length : Int)
 rotate_left
 ·
  rw [if_neg c6] at H
  exact absurd H (by simp)
 rw [if_pos c6] at H
 have c6b0 : decide (a1 < (l0_0.length : Int)) = true := decide_eq_true c6
 clear c6
 by_cases c7 : 0 ≤ a3
 rotate_left
 ·
  rw [if_neg c7] at H
  exact absurd H (by simp)
 rw [if_pos c7] at H
 have c7b0 : decide (0 ≤ a3) = true := decide_eq_true c7
 clear c7
 by_cases c8 : a3 < (l2_0.length : Int)
 rotate_left
 ·
  rw [if_neg c8] at H
  exact absurd H (by simp)
 rw [if_pos c8] at H
 have c8b0 : decide (a3 < (l2_0.length : Int)) = true := decide_eq_true c8
 clear c8
 have HC9 := As.mk H
 clear H
 go_enter Tryd.func70, Tryd.ntmps70
 try go_wp2_with (first | ((with_reducible refine gate_dst (N := 4) rfl ?_); (try (refine gate_guard (by rfl) ?_; dsimp only)); refine box_event ?hg (N := 4) ?hd (cs := #[.slice A0_0 l0_0.length c0_0, .slice A0_1 l0_1.length c0_1]) (t := 52) ?hr ?_; (case hd => rfl); (case hg => rfl); (case hr => first | (go_simp; done) | (go_simp; rfl)); intro gb290 hg w10 hbox hb; have BK290 := As.mk (hbox); have GW290 := As.mk (gs w hg); have GE290 := As.mk (gs w hg); replace HB := As.mk (below_step (be w) hb); clear hb hbox hg) | ((with_reducible refine gate_dst (N := 6) rfl ?_); (try (refine gate_guard (by rfl) ?_; dsimp only)); refine box_event ?hg (N := 6) ?hd (cs := #[.slice A2_0 l2_0.length c2_0, .slice A2_1 l2_1.length c2_1]) (t := 52) ?hr ?_; (case hd => rfl); (case hg => rfl); (case hr => first | (go_simp; done) | (go_simp; rfl)); intro gb291 hg w11 hbox hb; have BK291 := As.mk (hbox); have GW291 := As.mk (gs w hg); have GE291 := As.mk (gs w hg); replace HB := As.mk (below_step (be w) hb); have NB290_291 := As.mk (nl hg (bx BK290.out)); have NB291_290 := As.mk (ng hg (bx BK290.out)); replace BK290 := As.mk (blk_below (bx BK290.out) hb); clear hb hbox hg))
 replace BK290 := As.mk (blk_drew BK290.out)
 replace BK291 := As.mk (blk_drew BK291.out)
 replace HB := As.mk (below_drew1 HB.out)
 have p292 : 0 ≤ (a1 : Int) := of_decide_eq_true (by first | (with_reducible assumption) | assumption)
 have q292 : a1 < (l0_0.length : Int) := of_decide_eq_true (by first | (with_reducible assumption) | assumption)
 obtain ⟨ad292, A292_3, c292_3, e292, hx292_0, hx292_1, hx292_2, hx292_3, hl292_3, hi292_3⟩ := at_T64 HR0_0.out a1 p292 q292
 have hw292_3 := hx292_3
 have hw292_2 := hx292_2
 have hw292_1 := hx292_1
 have hw292_0 := hx292_0
 cases e292
 replace hx292_0 := ce HB.out hx292_0
 replace hx292_1 := ce HB.out hx292_1
 replace hx292_2 := ce HB.out hx292_2
 replace hx292_3 := ce HB.out hx292_3
 have HR292_3 := As.mk hi292_3
 have HC292_3 := As.mk hl292_3
 clear hi292_3 hl292_3
 replace p292 := eq_true p292
 replace q292 := eq_true q292
 have p293 : 0 ≤ (a3 : Int) := of_decide_eq_true (by first | (with_reducible assumption) | assumption)
 have q293 : a3 < (l2_0.length : Int) := of_decide_eq_true (by first | (with_reducible assumption) | assumption)
 obtain ⟨ad293, A293_3, c293_3, e293, hx293_0, hx293_1, hx293_2, hx293_3, hl293_3, hi293_3⟩ := at_T64 HR2_0.out a3 p293 q293
 have hw293_3 := hx293_3
 have hw293_2 := hx293_2
 have hw293_1 := hx293_1
 have hw293_0 := hx293_0
 cases e293
 replace hx293_0 := ce HB.out hx293_0
 replace hx293_1 := ce HB.out hx293_1
 replace hx293_2 := ce HB.out hx293_2
 replace hx293_3 := ce HB.out hx293_3
 have HR293_3 := As.mk hi293_3
 have HC293_3 := As.mk hl293_3
 clear hi293_3 hl293_3
 replace p293 := eq_true p293
 replace q293 := eq_true q293
 refine start_ (n := 14) (S := fun w' => w'.cell? ⟨gb290, 0, none⟩ = some (.slice (some ad292) l0_0.length c0_0) ∧ w'.cell? ⟨gb290, 1, none⟩ = some (.slice A0_1 l0_1.length c0_1) ∧ w'.cell? ⟨gb291, 0, none⟩ = some (.slice (some ad293) l2_0.length c2_0) ∧ w'.cell? ⟨gb291, 1, none⟩ = some (.slice A2_1 l2_1.length c2_1) ∧ w'.cell? (ad292.add ((a1).toNat * 4)) = some (.int .i64 ((rd_T64 l0_0 a1).f0)) ∧ w'.cell? ⟨(ad292.add ((a1).toNat * 4)).block, (ad292.add ((a1).toNat * 4)).off + 1, none⟩ = some (.int .i64 ((rd_T64 l0_0 a1).f1)) ∧ w'.cell? ⟨(ad292.add ((a1).toNat * 4)).block, (ad292.add ((a1).toNat * 4)).off + 2, none⟩ = some (.string ((rd_T64 l0_0 a1).f2)) ∧ w'.cell? ⟨(ad292.add ((a1).toNat * 4)).block, (ad292.add ((a1).toNat * 4)).off + 3, none⟩ = some (.slice A292_3 ((rd_T64 l0_0 a1).f3).length c292_3) ∧ w'.cell? (ad293.add ((a3).toNat * 4)) = some (.int .i64 ((rd_T64 l2_0 a3).f0)) ∧ w'.cell? ⟨(ad293.add ((a3).toNat * 4)).block, (ad293.add ((a3).toNat * 4)).off + 1, none⟩ = some (.int .i64 ((rd_T64 l2_0 a3).f1)) ∧ w'.cell? ⟨(ad293.add ((a3).toNat * 4)).block, (ad293.add ((a3).toNat * 4)).off + 2, none⟩ = some (.string ((rd_T64 l2_0 a3).f2)) ∧ w'.cell? ⟨(ad293.add ((a3).toNat * 4)).block, (ad293.add ((a3).toNat * 4)).off + 3, none⟩ = some (.slice A293_3 ((rd_T64 l2_0 a3).f3).length c293_3)) (ds := []) #[O, O, O, O, O, O, O, O, O, O, O, O, O, O] (by kernel_rfl) rfl rfl ⟨(blk_cell BK290.out 0).trans rfl, (blk_cell BK290.out 1).trans rfl, (blk_cell BK291.out 0).trans rfl, (blk_cell BK291.out 1).trans rfl, (ce HB.out hw292_0 :), (ce HB.out hw292_1 :), (ce HB.out hw292_2 :), (ce HB.out hw292_3 :), (ce HB.out hw293_0 :), (ce HB.out hw293_1 :), (ce HB.out hw293_2 :), (ce HB.out hw293_3 :)⟩ (fun hHeld => ?_); refine with_tabW impl_sameTree.tab1 impl_sameTree.bits1 (fun HT_ HW_ => ?_)
 generalize w11.drew = w12 at BK290 BK291 HB HR292_3 HR293_3 hx292_0 hx292_1 hx292_2 hx292_3 hx293_0 hx293_1 hx293_2 hx293_3 hHeld ⊢
 refine pure_ (i := 0) (N := some 12) (v := ?_) (a' := ?_) #[I, O, O, O, O, O, O, O, O, O, O, O, O, O] rfl rfl (any_of HT_.out (by kernel_rfl)) (fun _ _ _ h => h) (Or.inl ⟨by rfl, ?_⟩) ?_ ?_
 rotate_left
 ·
  intro w'
  go_simp
  with_reducible rfl
 rotate_left
 ·
  simp only [pk, i64_w, i32_w]
  rfl
 refine pure_ (i := 2) (N := some 14) (v := ?_) (a' := ?_) #[I, O, I, O, O, O, O, O, O, O, O, O, O, O] rfl rfl (any_of HT_.out (by kernel_rfl)) (fun _ _ _ h => h) (Or.inl ⟨by rfl, ?_⟩) ?_ ?_
 rotate_left
 ·
  intro w'
  go_simp
  with_reducible rfl
 rotate_left
 ·
  simp only [pk, i64_w, i32_w]
  rfl
 refine pure_ (i := 5) (N := some 17) (v := ?_) (a' := ?_) #[I, O, I, O, O, I, O, O, O, O, O, O, O, O] rfl rfl (any_of HT_.out (by kernel_rfl)) (fun _ _ _ h => h) (Or.inl ⟨by rfl, ?_⟩) ?_ ?_
 rotate_left
 ·
  intro w'
  go_simp
  with_reducible rfl
 rotate_left
 ·
  simp only [pk, i64_w, i32_w]
  rfl
 refine pure_ (i := 7) (N := some 19) (v := ?_) (a' := ?_) #[I, O, I, O, O, I, O, I, O, O, O, O, O, O] rfl rfl (any_of HT_.out (by kernel_rfl)) (fun _ _ _ h => h) (Or.inl ⟨by rfl, ?_⟩) ?_ ?_
 rotate_left
 ·
  intro w'
  go_simp
  with_reducible rfl
 rotate_left
 ·
  simp only [pk, i64_w, i32_w]
  rfl
 refine take_ (i := 1) (N := some 13) (v := ?_) (a' := ?_) #[I, I, I, O, O, I, O, I, O, O, O, O, O, O] rfl rfl (take_ofW HT_.out HW_.out (by kernel_rfl)) (fun _ _ _ h => h) (Or.inl ⟨by rfl, ?_⟩) hHeld ?_ ?_
 rotate_left
 ·
  rintro w' ⟨s0, s1, s2, s3, s4, s5, s6, s7, s8, s9, s10, s11⟩
  go_simp
  with_reducible rfl
 rotate_left
 ·
  simp only [pk, i64_w, i32_w]
  rfl
 refine pure_ (i := 3) (N := some 15) (v := ?_) (a' := ?_) #[I, I, I, I, O, I, O, I, O, O, O, O, O, O] rfl rfl (any_of HT_.out (by kernel_rfl)) (fun _ _ _ h => h) (Or.inl ⟨by rfl, ?_⟩) ?_ ?_
 rotate_left
 ·
  intro w'
  go_simp
  with_reducible rfl
 rotate_left
 ·
  simp only [pk, i64_w, i32_w]
  rfl
 refine take_ (i := 4) (N := some 16) (v := ?_) (a' := ?_) #[I, I, I, I, I, I, O, I, O, O, O, O, O, O] rfl rfl (take_ofW HT_.out HW_.out (by kernel_rfl)) (fun _ _ _ h => h) (Or.inl ⟨by rfl, ?_⟩) hHeld ?_ ?_
 rotate_left
 ·
  rintro w' ⟨s0, s1, s2, s3, s4, s5, s6, s7, s8, s9, s10, s11⟩
  go_simp
  with_reducible rfl
 rotate_left
 ·
  simp only [pk, i64_w, i32_w]
  rfl
 refine take_ (i := 6) (N := some 18) (v := ?_) (a' := ?_) #[I, I, I, I, I, I, I, I, O, O, O, O, O, O] rfl rfl (take_ofW HT_.out HW_.out (by kernel_rfl)) (fun _ _ _ h => h) (Or.inl ⟨by rfl, ?_⟩) hHeld ?_ ?_
 rotate_left
 ·
  rintro w' ⟨s0, s1, s2, s3, s4, s5, s6, s7, s8, s9, s10, s11⟩
  go_simp
  with_reducible rfl
 rotate_left
 ·
  simp only [pk, i64_w, i32_w]
  rfl
 refine pure_ (i := 8) (N := some 20) (v := ?_) (a' := ?_) #[I, I, I, I, I, I, I, I, I, O, O, O, O, O] rfl rfl (any_of HT_.out (by kernel_rfl)) (fun _ _ _ h => h) (Or.inl ⟨by rfl, ?_⟩) ?_ ?_
 rotate_left
 ·
  intro w'
  go_simp
  with_reducible rfl
 rotate_left
 ·
  simp only [pk, i64_w, i32_w]
  rfl
 refine take_ (i := 9) (N := some 21) (v := ?_) (a' := ?_) #[I, I, I, I, I, I, I, I, I, I, O, O, O, O] rfl rfl (take_ofW HT_.out HW_.out (by kernel_rfl)) (fun _ _ _ h => h) (Or.inl ⟨by rfl, ?_⟩) hHeld ?_ ?_
 rotate_left
 ·
  rintro w' ⟨s0, s1, s2, s3, s4, s5, s6, s7, s8, s9, s10, s11⟩
  go_simp
  with_reducible rfl
 rotate_left
 ·
  simp only [pk, i64_w, i32_w]
  rfl
 refine join_ (σ := Nat × Nat) 2 #[true, true, true, true, true, true, true, true, true, true, true, true, false, false] (fun s_ => [(9, .pointer (some ⟨s_.1, 0, none⟩)), (10, .pointer (some ⟨s_.2, 0, none⟩))]) (fun s_ w' => (w'.cell? ⟨gb290, 0, none⟩ = some (.slice (some ad292) l0_0.length c0_0) ∧ w'.cell? ⟨gb290, 1, none⟩ = some (.slice A0_1 l0_1.length c0_1) ∧ w'.cell? ⟨gb291, 0, none⟩ = some (.slice (some ad293) l2_0.length c2_0) ∧ w'.cell? ⟨gb291, 1, none⟩ = some (.slice A2_1 l2_1.length c2_1) ∧ w'.cell? (ad292.add ((a1).toNat * 4)) = some (.int .i64 ((rd_T64 l0_0 a1).f0)) ∧ w'.cell? ⟨(ad292.add ((a1).toNat * 4)).block, (ad292.add ((a1).toNat * 4)).off + 1, none⟩ = some (.int .i64 ((rd_T64 l0_0 a1).f1)) ∧ w'.cell? ⟨(ad292.add ((a1).toNat * 4)).block, (ad292.add ((a1).toNat * 4)).off + 2, none⟩ = some (.string ((rd_T64 l0_0 a1).f2)) ∧ w'.cell? ⟨(ad292.add ((a1).toNat * 4)).block, (ad292.add ((a1).toNat * 4)).off + 3, none⟩ = some (.slice A292_3 ((rd_T64 l0_0 a1).f3).length c292_3) ∧ w'.cell? (ad293.add ((a3).toNat * 4)) = some (.int .i64 ((rd_T64 l2_0 a3).f0)) ∧ w'.cell? ⟨(ad293.add ((a3).toNat * 4)).block, (ad293.add ((a3).toNat * 4)).off + 1, none⟩ = some (.int .i64 ((rd_T64 l2_0 a3).f1)) ∧ w'.cell? ⟨(ad293.add ((a3).toNat * 4)).block, (ad293.add ((a3).toNat * 4)).off + 2, none⟩ = some (.string ((rd_T64 l2_0 a3).f2)) ∧ w'.cell? ⟨(ad293.add ((a3).toNat * 4)).block, (ad293.add ((a3).toNat * 4)).off + 3, none⟩ = some (.slice A293_3 ((rd_T64 l2_0 a3).f3).length c293_3)) ∧ (w'.heap[gb290]? = some (.cells #[.slice (some ad292) l0_0.length c0_0, .slice A0_1 l0_1.length c0_1] 52 (0, 0))) ∧ (w'.heap[gb291]? = some (.cells #[.slice (some ad293) l2_0.length c2_0, .slice A2_1 l2_1.length c2_1] 52 (0, 0))) ∧ (w'.heap[s_.1]? = some (.cells #[.int .i64 0, .int .i64 0, .string (⟨#[]⟩ : ByteArray), .slice none 0 0] 64 (0, 0))) ∧ (w'.heap[s_.2]? = some (.cells #[.int .i64 0, .int .i64 0, .string (⟨#[]⟩ : ByteArray), .slice none 0 0] 64 (0, 0))) ∧ (w.heap.size ≤ s_.1) ∧ (w.heap.size ≤ s_.1) ∧ (gb290 ≠ s_.1) ∧ (s_.1 ≠ gb290) ∧ (gb291 ≠ s_.1) ∧ (s_.1 ≠ gb291) ∧ (s_.2 ≠ s_.1) ∧ (s_.1 ≠ s_.2) ∧ (w.heap.size ≤ s_.2) ∧ (w.heap.size ≤ s_.2) ∧ (gb290 ≠ s_.2) ∧ (s_.2 ≠ gb290) ∧ (gb291 ≠ s_.2) ∧ (s_.2 ≠ gb291) ∧ (Below w.heap.size w w')) ?_ ?_
 rotate_left
 ·
  intro hCont
  refine two_ (i := 10) (j := 11) (Ni := some 9) (Nj := some 10) #[true, true, true, true, true, true, true, true, true, true, true, false, false, false] #[true, true, true, true, true, true, true, true, true, true, false, true, false, false] rfl rfl rfl rfl (two_of HT_.out (by kernel_rfl)) (by decide) (by decide) (fun K hK => ?_) (fun K hK => ?_)
  ·
   skip
   refine box_step ?hg (N := 9) ?hd (cs := #[.int .i64 0, .int .i64 0, .string (⟨#[]⟩ : ByteArray), .slice none 0 0]) (t := 64) ?hr ?_; (case hd => rfl); (case hg => rfl); (case hr => first | (go_simp; done) | (go_simp; rfl))
   intro gb294 hg w13 hbox hb
   have BK294 := As.mk (hbox)
   have GW294 := As.mk (gs w hg)
   have GE294 := As.mk (gs w hg)
   replace HB := As.mk (below_step (be w) hb)
   have NB290_294 := As.mk (nl hg (bx BK290.out))
   have NB294_290 := As.mk (ng hg (bx BK290.out))
   replace BK290 := As.mk (blk_below (bx BK290.out) hb)
   have NB291_294 := As.mk (nl hg (bx BK291.out))
   have NB294_291 := As.mk (ng hg (bx BK291.out))
   replace BK291 := As.mk (blk_below (bx BK291.out) hb)
   clear hb hbox hg
   refine hK.out _ _ ⟨(blk_cell BK290.out 0).trans rfl, (blk_cell BK290.out 1).trans rfl, (blk_cell BK291.out 0).trans rfl, (blk_cell BK291.out 1).trans rfl, (ce HB.out hw292_0 :), (ce HB.out hw292_1 :), (ce HB.out hw292_2 :), (ce HB.out hw292_3 :), (ce HB.out hw293_0 :), (ce HB.out hw293_1 :), (ce HB.out hw293_2 :), (ce HB.out hw293_3 :)⟩ (fun hHeld => ?_)
   clear hK K
   refine norm_ (a' := ?_) ?_ ?_
   rotate_left
   ·
    show Act.put _ (some 9) _ = _
    simp only [pk, i64_w, i32_w]
    rfl
   refine one_ (i := 11) (N := some 10) #[I, I, I, I, I, I, I, I, I, I, I, I, O, O] rfl rfl (one_of HT_.out (by kernel_rfl)) (by decide) (fun K hK => ?_)
   refine box_step ?hg (N := 10) ?hd (cs := #[.int .i64 0, .int .i64 0, .string (⟨#[]⟩ : ByteArray), .slice none 0 0]) (t := 64) ?hr ?_; (case hd => rfl); (case hg => rfl); (case hr => first | (go_simp; done) | (go_simp; rfl))
   intro gb295 hg w14 hbox hb
   have BK295 := As.mk (hbox)
   have GW295 := As.mk (gs w hg)
   have GE295 := As.mk (gs w hg)
   replace HB := As.mk (below_step (be w) hb)
   have NB290_295 := As.mk (nl hg (bx BK290.out))
   have NB295_290 := As.mk (ng hg (bx BK290.out))
   replace BK290 := As.mk (blk_below (bx BK290.out) hb)
   have NB291_295 := As.mk (nl hg (bx BK291.out))
   have NB295_291 := As.mk (ng hg (bx BK291.out))
   replace BK291 := As.mk (blk_below (bx BK291.out) hb)
   have NB294_295 := As.mk (nl hg (bx BK294.out))
   have NB295_294 := As.mk (ng hg (bx BK294.out))
   replace BK294 := As.mk (blk_below (bx BK294.out) hb)
   clear hb hbox hg
   refine hK.out _ _ ⟨(blk_cell BK290.out 0).trans rfl, (blk_cell BK290.out 1).trans rfl, (blk_cell BK291.out 0).trans rfl, (blk_cell BK291.out 1).trans rfl, (ce HB.out hw292_0 :), (ce HB.out hw292_1 :), (ce HB.out hw292_2 :), (ce HB.out hw292_3 :), (ce HB.out hw293_0 :), (ce HB.out hw293_1 :), (ce HB.out hw293_2 :), (ce HB.out hw293_3 :)⟩ (fun hHeld => ?_)
   clear hK K
   refine norm_ (a' := ?_) ?_ ?_
   rotate_left
   ·
    show Act.put _ (some 10) _ = _
    simp only [pk, i64_w, i32_w]
    rfl
   exact norm_ (by simp only [putAll, Act.put, List.setIfInBounds_toArray, List.set_cons_zero, List.set_cons_succ]) (hCont (gb294, gb295) _ ⟨hHeld, (bx BK290.out), (bx BK291.out), (bx BK294.out), (bx BK295.out), GW294.out, GE294.out, NB290_294.out, NB294_290.out, NB291_294.out, NB294_291.out, NB295_294.out, NB294_295.out, GW295.out, GE295.out, NB290_295.out, NB295_290.out, NB291_295.out, NB295_291.out, (be w)⟩)
  ·
   skip
   refine box_step ?hg (N := 10) ?hd (cs := #[.int .i64 0, .int .i64 0, .string (⟨#[]⟩ : ByteArray), .slice none 0 0]) (t := 64) ?hr ?_; (case hd => rfl); (case hg => rfl); (case hr => first | (go_simp; done) | (go_simp; rfl))
   intro gb295 hg w13 hbox hb
   have BK295 := As.mk (hbox)
   have GW295 := As.mk (gs w hg)
   have GE295 := As.mk (gs w hg)
   replace HB := As.mk (below_step (be w) hb)
   have NB290_295 := As.mk (nl hg (bx BK290.out))
   have NB295_290 := As.mk (ng hg (bx BK290.out))
   replace BK290 := As.mk (blk_below (bx BK290.out) hb)
   have NB291_295 := As.mk (nl hg (bx BK291.out))
   have NB295_291 := As.mk (ng hg (bx BK291.out))
   replace BK291 := As.mk (blk_below (bx BK291.out) hb)
   clear hb hbox hg
   refine hK.out _ _ ⟨(blk_cell BK290.out 0).trans rfl, (blk_cell BK290.out 1).trans rfl, (blk_cell BK291.out 0).trans rfl, (blk_cell BK291.out 1).trans rfl, (ce HB.out hw292_0 :), (ce HB.out hw292_1 :), (ce HB.out hw292_2 :), (ce HB.out hw292_3 :), (ce HB.out hw293_0 :), (ce HB.out hw293_1 :), (ce HB.out hw293_2 :), (ce HB.out hw293_3 :)⟩ (fun hHeld => ?_)
   clear hK K
   refine norm_ (a' := ?_) ?_ ?_
   rotate_left
   ·
    show Act.put _ (some 10) _ = _
    simp only [pk, i64_w, i32_w]
    rfl
   refine one_ (i := 10) (N := some 9) #[I, I, I, I, I, I, I, I, I, I, I, I, O, O] rfl rfl (one_of HT_.out (by kernel_rfl)) (by decide) (fun K hK => ?_)
   refine box_step ?hg (N := 9) ?hd (cs := #[.int .i64 0, .int .i64 0, .string (⟨#[]⟩ : ByteArray), .slice none 0 0]) (t := 64) ?hr ?_; (case hd => rfl); (case hg => rfl); (case hr => first | (go_simp; done) | (go_simp; rfl))
   intro gb294 hg w14 hbox hb
   have BK294 := As.mk (hbox)
   have GW294 := As.mk (gs w hg)
   have GE294 := As.mk (gs w hg)
   replace HB := As.mk (below_step (be w) hb)
   have NB290_294 := As.mk (nl hg (bx BK290.out))
   have NB294_290 := As.mk (ng hg (bx BK290.out))
   replace BK290 := As.mk (blk_below (bx BK290.out) hb)
   have NB291_294 := As.mk (nl hg (bx BK291.out))
   have NB294_291 := As.mk (ng hg (bx BK291.out))
   replace BK291 := As.mk (blk_below (bx BK291.out) hb)
   have NB295_294 := As.mk (nl hg (bx BK295.out))
   have NB294_295 := As.mk (ng hg (bx BK295.out))
   replace BK295 := As.mk (blk_below (bx BK295.out) hb)
   clear hb hbox hg
   refine hK.out _ _ ⟨(blk_cell BK290.out 0).trans rfl, (blk_cell BK290.out 1).trans rfl, (blk_cell BK291.out 0).trans rfl, (blk_cell BK291.out 1).trans rfl, (ce HB.out hw292_0 :), (ce HB.out hw292_1 :), (ce HB.out hw292_2 :), (ce HB.out hw292_3 :), (ce HB.out hw293_0 :), (ce HB.out hw293_1 :), (ce HB.out hw293_2 :), (ce HB.out hw293_3 :)⟩ (fun hHeld => ?_)
   clear hK K
   refine norm_ (a' := ?_) ?_ ?_
   rotate_left
   ·
    show Act.put _ (some 9) _ = _
    simp only [pk, i64_w, i32_w]
    rfl
   exact norm_ (by simp only [putAll, Act.put, List.setIfInBounds_toArray, List.set_cons_zero, List.set_cons_succ]) (hCont (gb294, gb295) _ ⟨hHeld, (bx BK290.out), (bx BK291.out), (bx BK294.out), (bx BK295.out), GW294.out, GE294.out, NB290_294.out, NB294_290.out, NB291_294.out, NB294_291.out, NB295_294.out, NB294_295.out, GW295.out, GE295.out, NB290_295.out, NB295_290.out, NB291_295.out, NB295_291.out, (be w)⟩)
 rintro ⟨gb294, gb295⟩ w15 ⟨hS_, h0_, h1_, h2_, h3_, h4_, h5_, h6_, h7_, h8_, h9_, h10_, h11_, h12_, h13_, h14_, h15_, h16_, h17_, h18_⟩
 have n0_ : As (w15.heap[gb290]? = some (.cells #[.slice (some ad292) l0_0.length c0_0, .slice A0_1 l0_1.length c0_1] 52 (0, 0))) := ⟨h0_⟩
 have n1_ : As (w15.heap[gb291]? = some (.cells #[.slice (some ad293) l2_0.length c2_0, .slice A2_1 l2_1.length c2_1] 52 (0, 0))) := ⟨h1_⟩
 have n2_ : As (w15.heap[gb294]? = some (.cells #[.int .i64 0, .int .i64 0, .string (⟨#[]⟩ : ByteArray), .slice none 0 0] 64 (0, 0))) := ⟨h2_⟩
 have n3_ : As (w15.heap[gb295]? = some (.cells #[.int .i64 0, .int .i64 0, .string (⟨#[]⟩ : ByteArray), .slice none 0 0] 64 (0, 0))) := ⟨h3_⟩
 have n4_ : As (w.heap.size ≤ gb294) := ⟨h4_⟩
 have n5_ : As (w.heap.size ≤ gb294) := ⟨h5_⟩
 have n6_ : As (gb290 ≠ gb294) := ⟨h6_⟩
 have n7_ : As (gb294 ≠ gb290) := ⟨h7_⟩
 have n8_ : As (gb291 ≠ gb294) := ⟨h8_⟩
 have n9_ : As (gb294 ≠ gb291) := ⟨h9_⟩
 have n10_ : As (gb295 ≠ gb294) := ⟨h10_⟩
 have n11_ : As (gb294 ≠ gb295) := ⟨h11_⟩
 have n12_ : As (w.heap.size ≤ gb295) := ⟨h12_⟩
 have n13_ : As (w.heap.size ≤ gb295) := ⟨h13_⟩
 have n14_ : As (gb290 ≠ gb295) := ⟨h14_⟩
 have n15_ : As (gb295 ≠ gb290) := ⟨h15_⟩
 have n16_ : As (gb291 ≠ gb295) := ⟨h16_⟩
 have n17_ : As (gb295 ≠ gb291) := ⟨h17_⟩
 have n18_ : As (Below w.heap.size w w15) := ⟨h18_⟩
 clear BK290
 clear BK291
 clear HB
 clear h0_ h1_ h2_ h3_ h4_ h5_ h6_ h7_ h8_ h9_ h10_ h11_ h12_ h13_ h14_ h15_ h16_ h17_ h18_
 have BK290 := n0_
 have BK291 := n1_
 have BK294 := n2_
 have BK295 := n3_
 have GW294 := n4_
 have GE294 := n5_
 have NB290_294 := n6_
 have NB294_290 := n7_
 have NB291_294 := n8_
 have NB294_291 := n9_
 have NB295_294 := n10_
 have NB294_295 := n11_
 have GW295 := n12_
 have GE295 := n13_
 have NB290_295 := n14_
 have NB295_290 := n15_
 have NB291_295 := n16_
 have NB295_291 := n17_
 have HB := n18_
 clear n0_ n1_ n2_ n3_ n4_ n5_ n6_ n7_ n8_ n9_ n10_ n11_ n12_ n13_ n14_ n15_ n16_ n17_ n18_
 have hHeld : w15.cell? ⟨gb290, 0, none⟩ = some (.slice (some ad292) l0_0.length c0_0) ∧ w15.cell? ⟨gb290, 1, none⟩ = some (.slice A0_1 l0_1.length c0_1) ∧ w15.cell? ⟨gb291, 0, none⟩ = some (.slice (some ad293) l2_0.length c2_0) ∧ w15.cell? ⟨gb291, 1, none⟩ = some (.slice A2_1 l2_1.length c2_1) ∧ w15.cell? (ad292.add ((a1).toNat * 4)) = some (.int .i64 ((rd_T64 l0_0 a1).f0)) ∧ w15.cell? ⟨(ad292.add ((a1).toNat * 4)).block, (ad292.add ((a1).toNat * 4)).off + 1, none⟩ = some (.int .i64 ((rd_T64 l0_0 a1).f1)) ∧ w15.cell? ⟨(ad292.add ((a1).toNat * 4)).block, (ad292.add ((a1).toNat * 4)).off + 2, none⟩ = some (.string ((rd_T64 l0_0 a1).f2)) ∧ w15.cell? ⟨(ad292.add ((a1).toNat * 4)).block, (ad292.add ((a1).toNat * 4)).off + 3, none⟩ = some (.slice A292_3 ((rd_T64 l0_0 a1).f3).length c292_3) ∧ w15.cell? (ad293.add ((a3).toNat * 4)) = some (.int .i64 ((rd_T64 l2_0 a3).f0)) ∧ w15.cell? ⟨(ad293.add ((a3).toNat * 4)).block, (ad293.add ((a3).toNat * 4)).off + 1, none⟩ = some (.int .i64 ((rd_T64 l2_0 a3).f1)) ∧ w15.cell? ⟨(ad293.add ((a3).toNat * 4)).block, (ad293.add ((a3).toNat * 4)).off + 2, none⟩ = some (.string ((rd_T64 l2_0 a3).f2)) ∧ w15.cell? ⟨(ad293.add ((a3).toNat * 4)).block, (ad293.add ((a3).toNat * 4)).off + 3, none⟩ = some (.slice A293_3 ((rd_T64 l2_0 a3).f3).length c293_3) := hS_
 refine norm_ (a' := ?_) ?_ ?_
 rotate_left
 ·
  simp only [putAll, Act.put, List.setIfInBounds_toArray, List.set_cons_zero, List.set_cons_succ]
  rfl
 refine one_ (i := 12) (N := none) #[I, I, I, I, I, I, I, I, I, I, I, I, I, O] rfl rfl (one_of HT_.out (by kernel_rfl)) (by decide) (fun K hK => ?_)
 have hs16 : w15.cell? ⟨gb294, 0, none⟩ = some (.int .i64 0) := (blk_cell BK294.out 0).trans rfl
 have hfs16 := blk_frozen BK294.out 0
 have hns16_0 := NB290_294.out
 have hns16_1 := NB291_294.out
 have hns16_3 := NB295_294.out
 have hms16_0 := NB294_290.out
 have hms16_1 := NB294_291.out
 have hms16_3 := NB294_295.out
 have hs17 : w15.cell? ⟨gb294, 1, none⟩ = some (.int .i64 0) := (blk_cell BK294.out 1).trans rfl
 have hfs17 := blk_frozen BK294.out 1
 have hns17_0 := NB290_294.out
 have hns17_1 := NB291_294.out
 have hns17_3 := NB295_294.out
 have hms17_0 := NB294_290.out
 have hms17_1 := NB294_291.out
 have hms17_3 := NB294_295.out
 have hs18 : w15.cell? ⟨gb294, 2, none⟩ = some (.string (⟨#[]⟩ : ByteArray)) := (blk_cell BK294.out 2).trans rfl
 have hfs18 := blk_frozen BK294.out 2
 have hns18_0 := NB290_294.out
 have hns18_1 := NB291_294.out
 have hns18_3 := NB295_294.out
 have hms18_0 := NB294_290.out
 have hms18_1 := NB294_291.out
 have hms18_3 := NB294_295.out
 have hs19 : w15.cell? ⟨gb294, 3, none⟩ = some (.slice none 0 0) := (blk_cell BK294.out 3).trans rfl
 have hfs19 := blk_frozen BK294.out 3
 have hns19_0 := NB290_294.out
 have hns19_1 := NB291_294.out
 have hns19_3 := NB295_294.out
 have hms19_0 := NB294_290.out
 have hms19_1 := NB294_291.out
 have hms19_3 := NB294_295.out
 refine skip_ (w1 := ?_) (by rfl) rfl ?_ ?_
 rotate_left
 ·
  go_simp
  rfl
 refine hK.out _ _ ⟨((cell_far (p := ⟨gb294, _, none⟩) NB290_294.out _).trans (((cell_far (p := ⟨gb294, _, none⟩) NB290_294.out _).trans (((cell_far (p := ⟨gb294, _, none⟩) NB290_294.out _).trans (((cell_far (p := ⟨gb294, _, none⟩) NB290_294.out _).trans (hHeld.1)))))))), ((cell_far (p := ⟨gb294, _, none⟩) NB290_294.out _).trans (((cell_far (p := ⟨gb294, _, none⟩) NB290_294.out _).trans (((cell_far (p := ⟨gb294, _, none⟩) NB290_294.out _).trans (((cell_far (p := ⟨gb294, _, none⟩) NB290_294.out _).trans (hHeld.2.1)))))))), ((cell_far (p := ⟨gb294, _, none⟩) NB291_294.out _).trans (((cell_far (p := ⟨gb294, _, none⟩) NB291_294.out _).trans (((cell_far (p := ⟨gb294, _, none⟩) NB291_294.out _).trans (((cell_far (p := ⟨gb294, _, none⟩) NB291_294.out _).trans (hHeld.2.2.1)))))))), ((cell_far (p := ⟨gb294, _, none⟩) NB291_294.out _).trans (((cell_far (p := ⟨gb294, _, none⟩) NB291_294.out _).trans (((cell_far (p := ⟨gb294, _, none⟩) NB291_294.out _).trans (((cell_far (p := ⟨gb294, _, none⟩) NB291_294.out _).trans (hHeld.2.2.2.1)))))))), ((cell_far (p := ⟨gb294, _, none⟩) (by first | exact (by first | exact nb2 hw292_0 GW294.out | exact nb1 hw292_0 GW294.out) | (rw [add_block]; exact (by first | exact nb2 hw292_0 GW294.out | exact nb1 hw292_0 GW294.out)) | (show (Addr.add _ _).block ≠ _; rw [add_block]; exact (by first | exact nb2 hw292_0 GW294.out | exact nb1 hw292_0 GW294.out)) | (dsimp only; exact (by first | exact nb2 hw292_0 GW294.out | exact nb1 hw292_0 GW294.out))) _).trans (((cell_far (p := ⟨gb294, _, none⟩) (by first | exact (by first | exact nb2 hw292_0 GW294.out | exact nb1 hw292_0 GW294.out) | (rw [add_block]; exact (by first | exact nb2 hw292_0 GW294.out | exact nb1 hw292_0 GW294.out)) | (show (Addr.add _ _).block ≠ _; rw [add_block]; exact (by first | exact nb2 hw292_0 GW294.out | exact nb1 hw292_0 GW294.out)) | (dsimp only; exact (by first | exact nb2 hw292_0 GW294.out | exact nb1 hw292_0 GW294.out))) _).trans (((cell_far (p := ⟨gb294, _, none⟩) (by first | exact (by first | exact nb2 hw292_0 GW294.out | exact nb1 hw292_0 GW294.out) | (rw [add_block]; exact (by first | exact nb2 hw292_0 GW294.out | exact nb1 hw292_0 GW294.out)) | (show (Addr.add _ _).block ≠ _; rw [add_block]; exact (by first | exact nb2 hw292_0 GW294.out | exact nb1 hw292_0 GW294.out)) | (dsimp only; exact (by first | exact nb2 hw292_0 GW294.out | exact nb1 hw292_0 GW294.out))) _).trans (((cell_far (p := ⟨gb294, _, none⟩) (by first | exact (by first | exact nb2 hw292_0 GW294.out | exact nb1 hw292_0 GW294.out) | (rw [add_block]; exact (by first | exact nb2 hw292_0 GW294.out | exact nb1 hw292_0 GW294.out)) | (show (Addr.add _ _).block ≠ _; rw [add_block]; exact (by first | exact nb2 hw292_0 GW294.out | exact nb1 hw292_0 GW294.out)) | (dsimp only; exact (by first | exact nb2 hw292_0 GW294.out | exact nb1 hw292_0 GW294.out))) _).trans (hHeld.2.2.2.2.1)))))))), ((cell_far (p := ⟨gb294, _, none⟩) (by first | exact (by first | exact nb2 hw292_1 GW294.out | exact nb1 hw292_1 GW294.out) | (rw [add_block]; exact (by first | exact nb2 hw292_1 GW294.out | exact nb1 hw292_1 GW294.out)) | (show (Addr.add _ _).block ≠ _; rw [add_block]; exact (by first | exact nb2 hw292_1 GW294.out | exact nb1 hw292_1 GW294.out)) | (dsimp only; exact (by first | exact nb2 hw292_1 GW294.out | exact nb1 hw292_1 GW294.out))) _).trans (((cell_far (p := ⟨gb294, _, none⟩) (by first | exact (by first | exact nb2 hw292_1 GW294.out | exact nb1 hw292_1 GW294.out) | (rw [add_block]; exact (by first | exact nb2 hw292_1 GW294.out | exact nb1 hw292_1 GW294.out)) | (show (Addr.add _ _).block ≠ _; rw [add_block]; exact (by first | exact nb2 hw292_1 GW294.out | exact nb1 hw292_1 GW294.out)) | (dsimp only; exact (by first | exact nb2 hw292_1 GW294.out | exact nb1 hw292_1 GW294.out))) _).trans (((cell_far (p := ⟨gb294, _, none⟩) (by first | exact (by first | exact nb2 hw292_1 GW294.out | exact nb1 hw292_1 GW294.out) | (rw [add_block]; exact (by first | exact nb2 hw292_1 GW294.out | exact nb1 hw292_1 GW294.out)) | (show (Addr.add _ _).block ≠ _; rw [add_block]; exact (by first | exact nb2 hw292_1 GW294.out | exact nb1 hw292_1 GW294.out)) | (dsimp only; exact (by first | exact nb2 hw292_1 GW294.out | exact nb1 hw292_1 GW294.out))) _).trans (((cell_far (p := ⟨gb294, _, none⟩) (by first | exact (by first | exact nb2 hw292_1 GW294.out | exact nb1 hw292_1 GW294.out) | (rw [add_block]; exact (by first | exact nb2 hw292_1 GW294.out | exact nb1 hw292_1 GW294.out)) | (show (Addr.add _ _).block ≠ _; rw [add_block]; exact (by first | exact nb2 hw292_1 GW294.out | exact nb1 hw292_1 GW294.out)) | (dsimp only; exact (by first | exact nb2 hw292_1 GW294.out | exact nb1 hw292_1 GW294.out))) _).trans (hHeld.2.2.2.2.2.1)))))))), ((cell_far (p := ⟨gb294, _, none⟩) (by first | exact (by first | exact nb2 hw292_2 GW294.out | exact nb1 hw292_2 GW294.out) | (rw [add_block]; exact (by first | exact nb2 hw292_2 GW294.out | exact nb1 hw292_2 GW294.out)) | (show (Addr.add _ _).block ≠ _; rw [add_block]; exact (by first | exact nb2 hw292_2 GW294.out | exact nb1 hw292_2 GW294.out)) | (dsimp only; exact (by first | exact nb2 hw292_2 GW294.out | exact nb1 hw292_2 GW294.out))) _).trans (((cell_far (p := ⟨gb294, _, none⟩) (by first | exact (by first | exact nb2 hw292_2 GW294.out | exact nb1 hw292_2 GW294.out) | (rw [add_block]; exact (by first | exact nb2 hw292_2 GW294.out | exact nb1 hw292_2 GW294.out)) | (show (Addr.add _ _).block ≠ _; rw [add_block]; exact (by first | exact nb2 hw292_2 GW294.out | exact nb1 hw292_2 GW294.out)) | (dsimp only; exact (by first | exact nb2 hw292_2 GW294.out | exact nb1 hw292_2 GW294.out))) _).trans (((cell_far (p := ⟨gb294, _, none⟩) (by first | exact (by first | exact nb2 hw292_2 GW294.out | exact nb1 hw292_2 GW294.out) | (rw [add_block]; exact (by first | exact nb2 hw292_2 GW294.out | exact nb1 hw292_2 GW294.out)) | (show (Addr.add _ _).block ≠ _; rw [add_block]; exact (by first | exact nb2 hw292_2 GW294.out | exact nb1 hw292_2 GW294.out)) | (dsimp only; exact (by first | exact nb2 hw292_2 GW294.out | exact nb1 hw292_2 GW294.out))) _).trans (((cell_far (p := ⟨gb294, _, none⟩) (by first | exact (by first | exact nb2 hw292_2 GW294.out | exact nb1 hw292_2 GW294.out) | (rw [add_block]; exact (by first | exact nb2 hw292_2 GW294.out | exact nb1 hw292_2 GW294.out)) | (show (Addr.add _ _).block ≠ _; rw [add_block]; exact (by first | exact nb2 hw292_2 GW294.out | exact nb1 hw292_2 GW294.out)) | (dsimp only; exact (by first | exact nb2 hw292_2 GW294.out | exact nb1 hw292_2 GW294.out))) _).trans (hHeld.2.2.2.2.2.2.1)))))))), ((cell_far (p := ⟨gb294, _, none⟩) (by first | exact (by first | exact nb2 hw292_3 GW294.out | exact nb1 hw292_3 GW294.out) | (rw [add_block]; exact (by first | exact nb2 hw292_3 GW294.out | exact nb1 hw292_3 GW294.out)) | (show (Addr.add _ _).block ≠ _; rw [add_block]; exact (by first | exact nb2 hw292_3 GW294.out | exact nb1 hw292_3 GW294.out)) | (dsimp only; exact (by first | exact nb2 hw292_3 GW294.out | exact nb1 hw292_3 GW294.out))) _).trans (((cell_far (p := ⟨gb294, _, none⟩) (by first | exact (by first | exact nb2 hw292_3 GW294.out | exact nb1 hw292_3 GW294.out) | (rw [add_block]; exact (by first | exact nb2 hw292_3 GW294.out | exact nb1 hw292_3 GW294.out)) | (show (Addr.add _ _).block ≠ _; rw [add_block]; exact (by first | exact nb2 hw292_3 GW294.out | exact nb1 hw292_3 GW294.out)) | (dsimp only; exact (by first | exact nb2 hw292_3 GW294.out | exact nb1 hw292_3 GW294.out))) _).trans (((cell_far (p := ⟨gb294, _, none⟩) (by first | exact (by first | exact nb2 hw292_3 GW294.out | exact nb1 hw292_3 GW294.out) | (rw [add_block]; exact (by first | exact nb2 hw292_3 GW294.out | exact nb1 hw292_3 GW294.out)) | (show (Addr.add _ _).block ≠ _; rw [add_block]; exact (by first | exact nb2 hw292_3 GW294.out | exact nb1 hw292_3 GW294.out)) | (dsimp only; exact (by first | exact nb2 hw292_3 GW294.out | exact nb1 hw292_3 GW294.out))) _).trans (((cell_far (p := ⟨gb294, _, none⟩) (by first | exact (by first | exact nb2 hw292_3 GW294.out | exact nb1 hw292_3 GW294.out) | (rw [add_block]; exact (by first | exact nb2 hw292_3 GW294.out | exact nb1 hw292_3 GW294.out)) | (show (Addr.add _ _).block ≠ _; rw [add_block]; exact (by first | exact nb2 hw292_3 GW294.out | exact nb1 hw292_3 GW294.out)) | (dsimp only; exact (by first | exact nb2 hw292_3 GW294.out | exact nb1 hw292_3 GW294.out))) _).trans (hHeld.2.2.2.2.2.2.2.1)))))))), ((cell_far (p := ⟨gb294, _, none⟩) (by first | exact (by first | exact nb2 hw293_0 GW294.out | exact nb1 hw293_0 GW294.out) | (rw [add_block]; exact (by first | exact nb2 hw293_0 GW294.out | exact nb1 hw293_0 GW294.out)) | (show (Addr.add _ _).block ≠ _; rw [add_block]; exact (by first | exact nb2 hw293_0 GW294.out | exact nb1 hw293_0 GW294.out)) | (dsimp only; exact (by first | exact nb2 hw293_0 GW294.out | exact nb1 hw293_0 GW294.out))) _).trans (((cell_far (p := ⟨gb294, _, none⟩) (by first | exact (by first | exact nb2 hw293_0 GW294.out | exact nb1 hw293_0 GW294.out) | (rw [add_block]; exact (by first | exact nb2 hw293_0 GW294.out | exact nb1 hw293_0 GW294.out)) | (show (Addr.add _ _).block ≠ _; rw [add_block]; exact (by first | exact nb2 hw293_0 GW294.out | exact nb1 hw293_0 GW294.out)) | (dsimp only; exact (by first | exact nb2 hw293_0 GW294.out | exact nb1 hw293_0 GW294.out))) _).trans (((cell_far (p := ⟨gb294, _, none⟩) (by first | exact (by first | exact nb2 hw293_0 GW294.out | exact nb1 hw293_0 GW294.out) | (rw [add_block]; exact (by first | exact nb2 hw293_0 GW294.out | exact nb1 hw293_0 GW294.out)) | (show (Addr.add _ _).block ≠ _; rw [add_block]; exact (by first | exact nb2 hw293_0 GW294.out | exact nb1 hw293_0 GW294.out)) | (dsimp only; exact (by first | exact nb2 hw293_0 GW294.out | exact nb1 hw293_0 GW294.out))) _).trans (((cell_far (p := ⟨gb294, _, none⟩) (by first | exact (by first | exact nb2 hw293_0 GW294.out | exact nb1 hw293_0 GW294.out) | (rw [add_block]; exact (by first | exact nb2 hw293_0 GW294.out | exact nb1 hw293_0 GW294.out)) | (show (Addr.add _ _).block ≠ _; rw [add_block]; exact (by first | exact nb2 hw293_0 GW294.out | exact nb1 hw293_0 GW294.out)) | (dsimp only; exact (by first | exact nb2 hw293_0 GW294.out | exact nb1 hw293_0 GW294.out))) _).trans (hHeld.2.2.2.2.2.2.2.2.1)))))))), ((cell_far (p := ⟨gb294, _, none⟩) (by first | exact (by first | exact nb2 hw293_1 GW294.out | exact nb1 hw293_1 GW294.out) | (rw [add_block]; exact (by first | exact nb2 hw293_1 GW294.out | exact nb1 hw293_1 GW294.out)) | (show (Addr.add _ _).block ≠ _; rw [add_block]; exact (by first | exact nb2 hw293_1 GW294.out | exact nb1 hw293_1 GW294.out)) | (dsimp only; exact (by first | exact nb2 hw293_1 GW294.out | exact nb1 hw293_1 GW294.out))) _).trans (((cell_far (p := ⟨gb294, _, none⟩) (by first | exact (by first | exact nb2 hw293_1 GW294.out | exact nb1 hw293_1 GW294.out) | (rw [add_block]; exact (by first | exact nb2 hw293_1 GW294.out | exact nb1 hw293_1 GW294.out)) | (show (Addr.add _ _).block ≠ _; rw [add_block]; exact (by first | exact nb2 hw293_1 GW294.out | exact nb1 hw293_1 GW294.out)) | (dsimp only; exact (by first | exact nb2 hw293_1 GW294.out | exact nb1 hw293_1 GW294.out))) _).trans (((cell_far (p := ⟨gb294, _, none⟩) (by first | exact (by first | exact nb2 hw293_1 GW294.out | exact nb1 hw293_1 GW294.out) | (rw [add_block]; exact (by first | exact nb2 hw293_1 GW294.out | exact nb1 hw293_1 GW294.out)) | (show (Addr.add _ _).block ≠ _; rw [add_block]; exact (by first | exact nb2 hw293_1 GW294.out | exact nb1 hw293_1 GW294.out)) | (dsimp only; exact (by first | exact nb2 hw293_1 GW294.out | exact nb1 hw293_1 GW294.out))) _).trans (((cell_far (p := ⟨gb294, _, none⟩) (by first | exact (by first | exact nb2 hw293_1 GW294.out | exact nb1 hw293_1 GW294.out) | (rw [add_block]; exact (by first | exact nb2 hw293_1 GW294.out | exact nb1 hw293_1 GW294.out)) | (show (Addr.add _ _).block ≠ _; rw [add_block]; exact (by first | exact nb2 hw293_1 GW294.out | exact nb1 hw293_1 GW294.out)) | (dsimp only; exact (by first | exact nb2 hw293_1 GW294.out | exact nb1 hw293_1 GW294.out))) _).trans (hHeld.2.2.2.2.2.2.2.2.2.1)))))))), ((cell_far (p := ⟨gb294, _, none⟩) (by first | exact (by first | exact nb2 hw293_2 GW294.out | exact nb1 hw293_2 GW294.out) | (rw [add_block]; exact (by first | exact nb2 hw293_2 GW294.out | exact nb1 hw293_2 GW294.out)) | (show (Addr.add _ _).block ≠ _; rw [add_block]; exact (by first | exact nb2 hw293_2 GW294.out | exact nb1 hw293_2 GW294.out)) | (dsimp only; exact (by first | exact nb2 hw293_2 GW294.out | exact nb1 hw293_2 GW294.out))) _).trans (((cell_far (p := ⟨gb294, _, none⟩) (by first | exact (by first | exact nb2 hw293_2 GW294.out | exact nb1 hw293_2 GW294.out) | (rw [add_block]; exact (by first | exact nb2 hw293_2 GW294.out | exact nb1 hw293_2 GW294.out)) | (show (Addr.add _ _).block ≠ _; rw [add_block]; exact (by first | exact nb2 hw293_2 GW294.out | exact nb1 hw293_2 GW294.out)) | (dsimp only; exact (by first | exact nb2 hw293_2 GW294.out | exact nb1 hw293_2 GW294.out))) _).trans (((cell_far (p := ⟨gb294, _, none⟩) (by first | exact (by first | exact nb2 hw293_2 GW294.out | exact nb1 hw293_2 GW294.out) | (rw [add_block]; exact (by first | exact nb2 hw293_2 GW294.out | exact nb1 hw293_2 GW294.out)) | (show (Addr.add _ _).block ≠ _; rw [add_block]; exact (by first | exact nb2 hw293_2 GW294.out | exact nb1 hw293_2 GW294.out)) | (dsimp only; exact (by first | exact nb2 hw293_2 GW294.out | exact nb1 hw293_2 GW294.out))) _).trans (((cell_far (p := ⟨gb294, _, none⟩) (by first | exact (by first | exact nb2 hw293_2 GW294.out | exact nb1 hw293_2 GW294.out) | (rw [add_block]; exact (by first | exact nb2 hw293_2 GW294.out | exact nb1 hw293_2 GW294.out)) | (show (Addr.add _ _).block ≠ _; rw [add_block]; exact (by first | exact nb2 hw293_2 GW294.out | exact nb1 hw293_2 GW294.out)) | (dsimp only; exact (by first | exact nb2 hw293_2 GW294.out | exact nb1 hw293_2 GW294.out))) _).trans (hHeld.2.2.2.2.2.2.2.2.2.2.1)))))))), ((cell_far (p := ⟨gb294, _, none⟩) (by first | exact (by first | exact nb2 hw293_3 GW294.out | exact nb1 hw293_3 GW294.out) | (rw [add_block]; exact (by first | exact nb2 hw293_3 GW294.out | exact nb1 hw293_3 GW294.out)) | (show (Addr.add _ _).block ≠ _; rw [add_block]; exact (by first | exact nb2 hw293_3 GW294.out | exact nb1 hw293_3 GW294.out)) | (dsimp only; exact (by first | exact nb2 hw293_3 GW294.out | exact nb1 hw293_3 GW294.out))) _).trans (((cell_far (p := ⟨gb294, _, none⟩) (by first | exact (by first | exact nb2 hw293_3 GW294.out | exact nb1 hw293_3 GW294.out) | (rw [add_block]; exact (by first | exact nb2 hw293_3 GW294.out | exact nb1 hw293_3 GW294.out)) | (show (Addr.add _ _).block ≠ _; rw [add_block]; exact (by first | exact nb2 hw293_3 GW294.out | exact nb1 hw293_3 GW294.out)) | (dsimp only; exact (by first | exact nb2 hw293_3 GW294.out | exact nb1 hw293_3 GW294.out))) _).trans (((cell_far (p := ⟨gb294, _, none⟩) (by first | exact (by first | exact nb2 hw293_3 GW294.out | exact nb1 hw293_3 GW294.out) | (rw [add_block]; exact (by first | exact nb2 hw293_3 GW294.out | exact nb1 hw293_3 GW294.out)) | (show (Addr.add _ _).block ≠ _; rw [add_block]; exact (by first | exact nb2 hw293_3 GW294.out | exact nb1 hw293_3 GW294.out)) | (dsimp only; exact (by first | exact nb2 hw293_3 GW294.out | exact nb1 hw293_3 GW294.out))) _).trans (((cell_far (p := ⟨gb294, _, none⟩) (by first | exact (by first | exact nb2 hw293_3 GW294.out | exact nb1 hw293_3 GW294.out) | (rw [add_block]; exact (by first | exact nb2 hw293_3 GW294.out | exact nb1 hw293_3 GW294.out)) | (show (Addr.add _ _).block ≠ _; rw [add_block]; exact (by first | exact nb2 hw293_3 GW294.out | exact nb1 hw293_3 GW294.out)) | (dsimp only; exact (by first | exact nb2 hw293_3 GW294.out | exact nb1 hw293_3 GW294.out))) _).trans (hHeld.2.2.2.2.2.2.2.2.2.2.2))))))))⟩ (fun hHeld => ?_)
 clear hK K
 refine one_ (i := 13) (N := none) #[I, I, I, I, I, I, I, I, I, I, I, I, I, I] rfl rfl (one_of HT_.out (by kernel_rfl)) (by decide) (fun K hK => ?_)
 have hs20 : w15.cell? ⟨gb295, 0, none⟩ = some (.int .i64 0) := (blk_cell BK295.out 0).trans rfl
 have hfs20 := blk_frozen BK295.out 0
 have hns20_0 := NB290_295.out
 have hns20_1 := NB291_295.out
 have hns20_2 := NB294_295.out
 have hms20_0 := NB295_290.out
 have hms20_1 := NB295_291.out
 have hms20_2 := NB295_294.out
 have hs21 : w15.cell? ⟨gb295, 1, none⟩ = some (.int .i64 0) := (blk_cell BK295.out 1).trans rfl
 have hfs21 := blk_frozen BK295.out 1
 have hns21_0 := NB290_295.out
 have hns21_1 := NB291_295.out
 have hns21_2 := NB294_295.out
 have hms21_0 := NB295_290.out
 have hms21_1 := NB295_291.out
 have hms21_2 := NB295_294.out
 have hs22 : w15.cell? ⟨gb295, 2, none⟩ = some (.string (⟨#[]⟩ : ByteArray)) := (blk_cell BK295.out 2).trans rfl
 have hfs22 := blk_frozen BK295.out 2
 have hns22_0 := NB290_295.out
 have hns22_1 := NB291_295.out
 have hns22_2 := NB294_295.out
 have hms22_0 := NB295_290.out
 have hms22_1 := NB295_291.out
 have hms22_2 := NB295_294.out
 have hs23 : w15.cell? ⟨gb295, 3, none⟩ = some (.slice none 0 0) := (blk_cell BK295.out 3).trans rfl
 have hfs23 := blk_frozen BK295.out 3
 have hns23_0 := NB290_295.out
 have hns23_1 := NB291_295.out
 have hns23_2 := NB294_295.out
 have hms23_0 := NB295_290.out
 have hms23_1 := NB295_291.out
 have hms23_2 := NB295_294.out
 refine skip_ (w1 := ?_) (by rfl) rfl ?_ ?_
 rotate_left
 ·
  go_simp
  rfl
 refine hK.out _ _ ⟨((cell_far (p := ⟨gb295, _, none⟩) NB290_295.out _).trans (((cell_far (p := ⟨gb295, _, none⟩) NB290_295.out _).trans (((cell_far (p := ⟨gb295, _, none⟩) NB290_295.out _).trans (((cell_far (p := ⟨gb295, _, none⟩) NB290_295.out _).trans (hHeld.1)))))))), ((cell_far (p := ⟨gb295, _, none⟩) NB290_295.out _).trans (((cell_far (p := ⟨gb295, _, none⟩) NB290_295.out _).trans (((cell_far (p := ⟨gb295, _, none⟩) NB290_295.out _).trans (((cell_far (p := ⟨gb295, _, none⟩) NB290_295.out _).trans (hHeld.2.1)))))))), ((cell_far (p := ⟨gb295, _, none⟩) NB291_295.out _).trans (((cell_far (p := ⟨gb295, _, none⟩) NB291_295.out _).trans (((cell_far (p := ⟨gb295, _, none⟩) NB291_295.out _).trans (((cell_far (p := ⟨gb295, _, none⟩) NB291_295.out _).trans (hHeld.2.2.1)))))))), ((cell_far (p := ⟨gb295, _, none⟩) NB291_295.out _).trans (((cell_far (p := ⟨gb295, _, none⟩) NB291_295.out _).trans (((cell_far (p := ⟨gb295, _, none⟩) NB291_295.out _).trans (((cell_far (p := ⟨gb295, _, none⟩) NB291_295.out _).trans (hHeld.2.2.2.1)))))))), ((cell_far (p := ⟨gb295, _, none⟩) (by first | exact (by first | exact nb2 hw292_0 GW295.out | exact nb1 hw292_0 GW295.out) | (rw [add_block]; exact (by first | exact nb2 hw292_0 GW295.out | exact nb1 hw292_0 GW295.out)) | (show (Addr.add _ _).block ≠ _; rw [add_block]; exact (by first | exact nb2 hw292_0 GW295.out | exact nb1 hw292_0 GW295.out)) | (dsimp only; exact (by first | exact nb2 hw292_0 GW295.out | exact nb1 hw292_0 GW295.out))) _).trans (((cell_far (p := ⟨gb295, _, none⟩) (by first | exact (by first | exact nb2 hw292_0 GW295.out | exact nb1 hw292_0 GW295.out) | (rw [add_block]; exact (by first | exact nb2 hw292_0 GW295.out | exact nb1 hw292_0 GW295.out)) | (show (Addr.add _ _).block ≠ _; rw [add_block]; exact (by first | exact nb2 hw292_0 GW295.out | exact nb1 hw292_0 GW295.out)) | (dsimp only; exact (by first | exact nb2 hw292_0 GW295.out | exact nb1 hw292_0 GW295.out))) _).trans (((cell_far (p := ⟨gb295, _, none⟩) (by first | exact (by first | exact nb2 hw292_0 GW295.out | exact nb1 hw292_0 GW295.out) | (rw [add_block]; exact (by first | exact nb2 hw292_0 GW295.out | exact nb1 hw292_0 GW295.out)) | (show (Addr.add _ _).block ≠ _; rw [add_block]; exact (by first | exact nb2 hw292_0 GW295.out | exact nb1 hw292_0 GW295.out)) | (dsimp only; exact (by first | exact nb2 hw292_0 GW295.out | exact nb1 hw292_0 GW295.out))) _).trans (((cell_far (p := ⟨gb295, _, none⟩) (by first | exact (by first | exact nb2 hw292_0 GW295.out | exact nb1 hw292_0 GW295.out) | (rw [add_block]; exact (by first | exact nb2 hw292_0 GW295.out | exact nb1 hw292_0 GW295.out)) | (show (Addr.add _ _).block ≠ _; rw [add_block]; exact (by first | exact nb2 hw292_0 GW295.out | exact nb1 hw292_0 GW295.out)) | (dsimp only; exact (by first | exact nb2 hw292_0 GW295.out | exact nb1 hw292_0 GW295.out))) _).trans (hHeld.2.2.2.2.1)))))))), ((cell_far (p := ⟨gb295, _, none⟩) (by first | exact (by first | exact nb2 hw292_1 GW295.out | exact nb1 hw292_1 GW295.out) | (rw [add_block]; exact (by first | exact nb2 hw292_1 GW295.out | exact nb1 hw292_1 GW295.out)) | (show (Addr.add _ _).block ≠ _; rw [add_block]; exact (by first | exact nb2 hw292_1 GW295.out | exact nb1 hw292_1 GW295.out)) | (dsimp only; exact (by first | exact nb2 hw292_1 GW295.out | exact nb1 hw292_1 GW295.out))) _).trans (((cell_far (p := ⟨gb295, _, none⟩) (by first | exact (by first | exact nb2 hw292_1 GW295.out | exact nb1 hw292_1 GW295.out) | (rw [add_block]; exact (by first | exact nb2 hw292_1 GW295.out | exact nb1 hw292_1 GW295.out)) | (show (Addr.add _ _).block ≠ _; rw [add_block]; exact (by first | exact nb2 hw292_1 GW295.out | exact nb1 hw292_1 GW295.out)) | (dsimp only; exact (by first | exact nb2 hw292_1 GW295.out | exact nb1 hw292_1 GW295.out))) _).trans (((cell_far (p := ⟨gb295, _, none⟩) (by first | exact (by first | exact nb2 hw292_1 GW295.out | exact nb1 hw292_1 GW295.out) | (rw [add_block]; exact (by first | exact nb2 hw292_1 GW295.out | exact nb1 hw292_1 GW295.out)) | (show (Addr.add _ _).block ≠ _; rw [add_block]; exact (by first | exact nb2 hw292_1 GW295.out | exact nb1 hw292_1 GW295.out)) | (dsimp only; exact (by first | exact nb2 hw292_1 GW295.out | exact nb1 hw292_1 GW295.out))) _).trans (((cell_far (p := ⟨gb295, _, none⟩) (by first | exact (by first | exact nb2 hw292_1 GW295.out | exact nb1 hw292_1 GW295.out) | (rw [add_block]; exact (by first | exact nb2 hw292_1 GW295.out | exact nb1 hw292_1 GW295.out)) | (show (Addr.add _ _).block ≠ _; rw [add_block]; exact (by first | exact nb2 hw292_1 GW295.out | exact nb1 hw292_1 GW295.out)) | (dsimp only; exact (by first | exact nb2 hw292_1 GW295.out | exact nb1 hw292_1 GW295.out))) _).trans (hHeld.2.2.2.2.2.1)))))))), ((cell_far (p := ⟨gb295, _, none⟩) (by first | exact (by first | exact nb2 hw292_2 GW295.out | exact nb1 hw292_2 GW295.out) | (rw [add_block]; exact (by first | exact nb2 hw292_2 GW295.out | exact nb1 hw292_2 GW295.out)) | (show (Addr.add _ _).block ≠ _; rw [add_block]; exact (by first | exact nb2 hw292_2 GW295.out | exact nb1 hw292_2 GW295.out)) | (dsimp only; exact (by first | exact nb2 hw292_2 GW295.out | exact nb1 hw292_2 GW295.out))) _).trans (((cell_far (p := ⟨gb295, _, none⟩) (by first | exact (by first | exact nb2 hw292_2 GW295.out | exact nb1 hw292_2 GW295.out) | (rw [add_block]; exact (by first | exact nb2 hw292_2 GW295.out | exact nb1 hw292_2 GW295.out)) | (show (Addr.add _ _).block ≠ _; rw [add_block]; exact (by first | exact nb2 hw292_2 GW295.out | exact nb1 hw292_2 GW295.out)) | (dsimp only; exact (by first | exact nb2 hw292_2 GW295.out | exact nb1 hw292_2 GW295.out))) _).trans (((cell_far (p := ⟨gb295, _, none⟩) (by first | exact (by first | exact nb2 hw292_2 GW295.out | exact nb1 hw292_2 GW295.out) | (rw [add_block]; exact (by first | exact nb2 hw292_2 GW295.out | exact nb1 hw292_2 GW295.out)) | (show (Addr.add _ _).block ≠ _; rw [add_block]; exact (by first | exact nb2 hw292_2 GW295.out | exact nb1 hw292_2 GW295.out)) | (dsimp only; exact (by first | exact nb2 hw292_2 GW295.out | exact nb1 hw292_2 GW295.out))) _).trans (((cell_far (p := ⟨gb295, _, none⟩) (by first | exact (by first | exact nb2 hw292_2 GW295.out | exact nb1 hw292_2 GW295.out) | (rw [add_block]; exact (by first | exact nb2 hw292_2 GW295.out | exact nb1 hw292_2 GW295.out)) | (show (Addr.add _ _).block ≠ _; rw [add_block]; exact (by first | exact nb2 hw292_2 GW295.out | exact nb1 hw292_2 GW295.out)) | (dsimp only; exact (by first | exact nb2 hw292_2 GW295.out | exact nb1 hw292_2 GW295.out))) _).trans (hHeld.2.2.2.2.2.2.1)))))))), ((cell_far (p := ⟨gb295, _, none⟩) (by first | exact (by first | exact nb2 hw292_3 GW295.out | exact nb1 hw292_3 GW295.out) | (rw [add_block]; exact (by first | exact nb2 hw292_3 GW295.out | exact nb1 hw292_3 GW295.out)) | (show (Addr.add _ _).block ≠ _; rw [add_block]; exact (by first | exact nb2 hw292_3 GW295.out | exact nb1 hw292_3 GW295.out)) | (dsimp only; exact (by first | exact nb2 hw292_3 GW295.out | exact nb1 hw292_3 GW295.out))) _).trans (((cell_far (p := ⟨gb295, _, none⟩) (by first | exact (by first | exact nb2 hw292_3 GW295.out | exact nb1 hw292_3 GW295.out) | (rw [add_block]; exact (by first | exact nb2 hw292_3 GW295.out | exact nb1 hw292_3 GW295.out)) | (show (Addr.add _ _).block ≠ _; rw [add_block]; exact (by first | exact nb2 hw292_3 GW295.out | exact nb1 hw292_3 GW295.out)) | (dsimp only; exact (by first | exact nb2 hw292_3 GW295.out | exact nb1 hw292_3 GW295.out))) _).trans (((cell_far (p := ⟨gb295, _, none⟩) (by first | exact (by first | exact nb2 hw292_3 GW295.out | exact nb1 hw292_3 GW295.out) | (rw [add_block]; exact (by first | exact nb2 hw292_3 GW295.out | exact nb1 hw292_3 GW295.out)) | (show (Addr.add _ _).block ≠ _; rw [add_block]; exact (by first | exact nb2 hw292_3 GW295.out | exact nb1 hw292_3 GW295.out)) | (dsimp only; exact (by first | exact nb2 hw292_3 GW295.out | exact nb1 hw292_3 GW295.out))) _).trans (((cell_far (p := ⟨gb295, _, none⟩) (by first | exact (by first | exact nb2 hw292_3 GW295.out | exact nb1 hw292_3 GW295.out) | (rw [add_block]; exact (by first | exact nb2 hw292_3 GW295.out | exact nb1 hw292_3 GW295.out)) | (show (Addr.add _ _).block ≠ _; rw [add_block]; exact (by first | exact nb2 hw292_3 GW295.out | exact nb1 hw292_3 GW295.out)) | (dsimp only; exact (by first | exact nb2 hw292_3 GW295.out | exact nb1 hw292_3 GW295.out))) _).trans (hHeld.2.2.2.2.2.2.2.1)))))))), ((cell_far (p := ⟨gb295, _, none⟩) (by first | exact (by first | exact nb2 hw293_0 GW295.out | exact nb1 hw293_0 GW295.out) | (rw [add_block]; exact (by first | exact nb2 hw293_0 GW295.out | exact nb1 hw293_0 GW295.out)) | (show (Addr.add _ _).block ≠ _; rw [add_block]; exact (by first | exact nb2 hw293_0 GW295.out | exact nb1 hw293_0 GW295.out)) | (dsimp only; exact (by first | exact nb2 hw293_0 GW295.out | exact nb1 hw293_0 GW295.out))) _).trans (((cell_far (p := ⟨gb295, _, none⟩) (by first | exact (by first | exact nb2 hw293_0 GW295.out | exact nb1 hw293_0 GW295.out) | (rw [add_block]; exact (by first | exact nb2 hw293_0 GW295.out | exact nb1 hw293_0 GW295.out)) | (show (Addr.add _ _).block ≠ _; rw [add_block]; exact (by first | exact nb2 hw293_0 GW295.out | exact nb1 hw293_0 GW295.out)) | (dsimp only; exact (by first | exact nb2 hw293_0 GW295.out | exact nb1 hw293_0 GW295.out))) _).trans (((cell_far (p := ⟨gb295, _, none⟩) (by first | exact (by first | exact nb2 hw293_0 GW295.out | exact nb1 hw293_0 GW295.out) | (rw [add_block]; exact (by first | exact nb2 hw293_0 GW295.out | exact nb1 hw293_0 GW295.out)) | (show (Addr.add _ _).block ≠ _; rw [add_block]; exact (by first | exact nb2 hw293_0 GW295.out | exact nb1 hw293_0 GW295.out)) | (dsimp only; exact (by first | exact nb2 hw293_0 GW295.out | exact nb1 hw293_0 GW295.out))) _).trans (((cell_far (p := ⟨gb295, _, none⟩) (by first | exact (by first | exact nb2 hw293_0 GW295.out | exact nb1 hw293_0 GW295.out) | (rw [add_block]; exact (by first | exact nb2 hw293_0 GW295.out | exact nb1 hw293_0 GW295.out)) | (show (Addr.add _ _).block ≠ _; rw [add_block]; exact (by first | exact nb2 hw293_0 GW295.out | exact nb1 hw293_0 GW295.out)) | (dsimp only; exact (by first | exact nb2 hw293_0 GW295.out | exact nb1 hw293_0 GW295.out))) _).trans (hHeld.2.2.2.2.2.2.2.2.1)))))))), ((cell_far (p := ⟨gb295, _, none⟩) (by first | exact (by first | exact nb2 hw293_1 GW295.out | exact nb1 hw293_1 GW295.out) | (rw [add_block]; exact (by first | exact nb2 hw293_1 GW295.out | exact nb1 hw293_1 GW295.out)) | (show (Addr.add _ _).block ≠ _; rw [add_block]; exact (by first | exact nb2 hw293_1 GW295.out | exact nb1 hw293_1 GW295.out)) | (dsimp only; exact (by first | exact nb2 hw293_1 GW295.out | exact nb1 hw293_1 GW295.out))) _).trans (((cell_far (p := ⟨gb295, _, none⟩) (by first | exact (by first | exact nb2 hw293_1 GW295.out | exact nb1 hw293_1 GW295.out) | (rw [add_block]; exact (by first | exact nb2 hw293_1 GW295.out | exact nb1 hw293_1 GW295.out)) | (show (Addr.add _ _).block ≠ _; rw [add_block]; exact (by first | exact nb2 hw293_1 GW295.out | exact nb1 hw293_1 GW295.out)) | (dsimp only; exact (by first | exact nb2 hw293_1 GW295.out | exact nb1 hw293_1 GW295.out))) _).trans (((cell_far (p := ⟨gb295, _, none⟩) (by first | exact (by first | exact nb2 hw293_1 GW295.out | exact nb1 hw293_1 GW295.out) | (rw [add_block]; exact (by first | exact nb2 hw293_1 GW295.out | exact nb1 hw293_1 GW295.out)) | (show (Addr.add _ _).block ≠ _; rw [add_block]; exact (by first | exact nb2 hw293_1 GW295.out | exact nb1 hw293_1 GW295.out)) | (dsimp only; exact (by first | exact nb2 hw293_1 GW295.out | exact nb1 hw293_1 GW295.out))) _).trans (((cell_far (p := ⟨gb295, _, none⟩) (by first | exact (by first | exact nb2 hw293_1 GW295.out | exact nb1 hw293_1 GW295.out) | (rw [add_block]; exact (by first | exact nb2 hw293_1 GW295.out | exact nb1 hw293_1 GW295.out)) | (show (Addr.add _ _).block ≠ _; rw [add_block]; exact (by first | exact nb2 hw293_1 GW295.out | exact nb1 hw293_1 GW295.out)) | (dsimp only; exact (by first | exact nb2 hw293_1 GW295.out | exact nb1 hw293_1 GW295.out))) _).trans (hHeld.2.2.2.2.2.2.2.2.2.1)))))))), ((cell_far (p := ⟨gb295, _, none⟩) (by first | exact (by first | exact nb2 hw293_2 GW295.out | exact nb1 hw293_2 GW295.out) | (rw [add_block]; exact (by first | exact nb2 hw293_2 GW295.out | exact nb1 hw293_2 GW295.out)) | (show (Addr.add _ _).block ≠ _; rw [add_block]; exact (by first | exact nb2 hw293_2 GW295.out | exact nb1 hw293_2 GW295.out)) | (dsimp only; exact (by first | exact nb2 hw293_2 GW295.out | exact nb1 hw293_2 GW295.out))) _).trans (((cell_far (p := ⟨gb295, _, none⟩) (by first | exact (by first | exact nb2 hw293_2 GW295.out | exact nb1 hw293_2 GW295.out) | (rw [add_block]; exact (by first | exact nb2 hw293_2 GW295.out | exact nb1 hw293_2 GW295.out)) | (show (Addr.add _ _).block ≠ _; rw [add_block]; exact (by first | exact nb2 hw293_2 GW295.out | exact nb1 hw293_2 GW295.out)) | (dsimp only; exact (by first | exact nb2 hw293_2 GW295.out | exact nb1 hw293_2 GW295.out))) _).trans (((cell_far (p := ⟨gb295, _, none⟩) (by first | exact (by first | exact nb2 hw293_2 GW295.out | exact nb1 hw293_2 GW295.out) | (rw [add_block]; exact (by first | exact nb2 hw293_2 GW295.out | exact nb1 hw293_2 GW295.out)) | (show (Addr.add _ _).block ≠ _; rw [add_block]; exact (by first | exact nb2 hw293_2 GW295.out | exact nb1 hw293_2 GW295.out)) | (dsimp only; exact (by first | exact nb2 hw293_2 GW295.out | exact nb1 hw293_2 GW295.out))) _).trans (((cell_far (p := ⟨gb295, _, none⟩) (by first | exact (by first | exact nb2 hw293_2 GW295.out | exact nb1 hw293_2 GW295.out) | (rw [add_block]; exact (by first | exact nb2 hw293_2 GW295.out | exact nb1 hw293_2 GW295.out)) | (show (Addr.add _ _).block ≠ _; rw [add_block]; exact (by first | exact nb2 hw293_2 GW295.out | exact nb1 hw293_2 GW295.out)) | (dsimp only; exact (by first | exact nb2 hw293_2 GW295.out | exact nb1 hw293_2 GW295.out))) _).trans (hHeld.2.2.2.2.2.2.2.2.2.2.1)))))))), ((cell_far (p := ⟨gb295, _, none⟩) (by first | exact (by first | exact nb2 hw293_3 GW295.out | exact nb1 hw293_3 GW295.out) | (rw [add_block]; exact (by first | exact nb2 hw293_3 GW295.out | exact nb1 hw293_3 GW295.out)) | (show (Addr.add _ _).block ≠ _; rw [add_block]; exact (by first | exact nb2 hw293_3 GW295.out | exact nb1 hw293_3 GW295.out)) | (dsimp only; exact (by first | exact nb2 hw293_3 GW295.out | exact nb1 hw293_3 GW295.out))) _).trans (((cell_far (p := ⟨gb295, _, none⟩) (by first | exact (by first | exact nb2 hw293_3 GW295.out | exact nb1 hw293_3 GW295.out) | (rw [add_block]; exact (by first | exact nb2 hw293_3 GW295.out | exact nb1 hw293_3 GW295.out)) | (show (Addr.add _ _).block ≠ _; rw [add_block]; exact (by first | exact nb2 hw293_3 GW295.out | exact nb1 hw293_3 GW295.out)) | (dsimp only; exact (by first | exact nb2 hw293_3 GW295.out | exact nb1 hw293_3 GW295.out))) _).trans (((cell_far (p := ⟨gb295, _, none⟩) (by first | exact (by first | exact nb2 hw293_3 GW295.out | exact nb1 hw293_3 GW295.out) | (rw [add_block]; exact (by first | exact nb2 hw293_3 GW295.out | exact nb1 hw293_3 GW295.out)) | (show (Addr.add _ _).block ≠ _; rw [add_block]; exact (by first | exact nb2 hw293_3 GW295.out | exact nb1 hw293_3 GW295.out)) | (dsimp only; exact (by first | exact nb2 hw293_3 GW295.out | exact nb1 hw293_3 GW295.out))) _).trans (((cell_far (p := ⟨gb295, _, none⟩) (by first | exact (by first | exact nb2 hw293_3 GW295.out | exact nb1 hw293_3 GW295.out) | (rw [add_block]; exact (by first | exact nb2 hw293_3 GW295.out | exact nb1 hw293_3 GW295.out)) | (show (Addr.add _ _).block ≠ _; rw [add_block]; exact (by first | exact nb2 hw293_3 GW295.out | exact nb1 hw293_3 GW295.out)) | (dsimp only; exact (by first | exact nb2 hw293_3 GW295.out | exact nb1 hw293_3 GW295.out))) _).trans (hHeld.2.2.2.2.2.2.2.2.2.2.2))))))))⟩ (fun hHeld => ?_)
 clear hK K
 refine done_ (done_of HT_.out (by kernel_rfl)) ?_
 go_upto_region 2 with (fail)
 go_cut [49] (fun v49 wc => ∃ (kq : Nat) (x49_8 : Bool), v49 = .bool x49_8 ∧ As (impl_sameTree.j0 kq x49_8 l0_0 l0_1 l2_0 l2_1 ((rd_T64 l0_0 a1).f0) ((rd_T64 l0_0 a1).f1) ((rd_T64 l0_0 a1).f2) ((rd_T64 l0_0 a1).f3) ((rd_T64 l2_0 a3).f0) ((rd_T64 l2_0 a3).f1) ((rd_T64 l2_0 a3).f2) ((rd_T64 l2_0 a3).f3) = some r) ∧ As (kq ≤ k) ∧ As (wc.heap[gb290]? = some (.cells #[(.slice (some ad292) l0_0.length c0_0), (.slice A0_1 l0_1.length c0_1)] 52 (0, 0))) ∧ As (wc.heap[gb291]? = some (.cells #[(.slice (some ad293) l2_0.length c2_0), (.slice A2_1 l2_1.length c2_1)] 52 (0, 0))) ∧ As (wc.heap[gb294]? = some (.cells #[.int .i64 ((rd_T64 l0_0 a1).f0), .int .i64 ((rd_T64 l0_0 a1).f1), .string ((rd_T64 l0_0 a1).f2), (.slice A292_3 ((rd_T64 l0_0 a1).f3).length c292_3)] 64 (0, 0))) ∧ As (wc.heap[gb295]? = some (.cells #[.int .i64 ((rd_T64 l2_0 a3).f0), .int .i64 ((rd_T64 l2_0 a3).f1), .string ((rd_T64 l2_0 a3).f2), (.slice A293_3 ((rd_T64 l2_0 a3).f3).length c293_3)] 64 (0, 0))) ∧ As (Below w.heap.size w wc))
 case first =>
  have H := HC9.out
  clear HC9
  by_cases c24 : ((rd_T64 l0_0 a1).f0) = ((rd_T64 l2_0 a3).f0)
  rotate_left
  ·
   rw [if_neg c24] at H
   have c24b0 : (((rd_T64 l0_0 a1).f0) == ((rd_T64 l2_0 a3).f0)) = false := beq_eq_false_iff_ne.mpr c24
   have c24b1 : (((rd_T64 l0_0 a1).f0) != ((rd_T64 l2_0 a3).f0)) = true := bne_iff_ne.mpr c24
   (first | rw [c24b0] | (simp only [i64_w, i32_w]; rw [c24b0]) | skip)
   have H' := As.mk H
   clear H
   have hnb48 := NB294_290.out
   have hnc48 := NB290_294.out
   have hnb49 := NB294_291.out
   have hnc49 := NB291_294.out
   have hnb50 := NB294_295.out
   have hnc50 := NB295_294.out
   obtain ⟨hcz51_0, hcz51_1, hcz51_2, hcz51_3, hfz51_0, hfz51_1, hfz51_2, hfz51_3⟩ := cl4 BK294.out
   have hnb52 := NB295_290.out
   have hnc52 := NB290_295.out
   have hnb53 := NB295_291.out
   have hnc53 := NB291_295.out
   obtain ⟨hcz54_0, hcz54_1, hcz54_2, hcz54_3, hfz54_0, hfz54_1, hfz54_2, hfz54_3⟩ := cl4 BK295.out
   go_wp2
   go_meet
   case rel => exact ⟨_, (true), (by first | rfl | (simp; done) | (simp [*]; done)), H', ⟨by first | omega | exact Nat.le_refl _⟩, ⟨by refine pl ?_; refine blk_far ?_ NB290_295.out _; refine pl ?_; refine blk_far ?_ NB290_295.out _; refine pl ?_; refine blk_far ?_ NB290_295.out _; refine pl ?_; refine blk_far ?_ NB290_295.out _; refine pl ?_; refine blk_far ?_ NB290_294.out _; refine pl ?_; refine blk_far ?_ NB290_294.out _; refine pl ?_; refine blk_far ?_ NB290_294.out _; refine pl ?_; refine blk_far ?_ NB290_294.out _; exact bx BK290.out⟩, ⟨by refine pl ?_; refine blk_far ?_ NB291_295.out _; refine pl ?_; refine blk_far ?_ NB291_295.out _; refine pl ?_; refine blk_far ?_ NB291_295.out _; refine pl ?_; refine blk_far ?_ NB291_295.out _; refine pl ?_; refine blk_far ?_ NB291_294.out _; refine pl ?_; refine blk_far ?_ NB291_294.out _; refine pl ?_; refine blk_far ?_ NB291_294.out _; refine pl ?_; refine blk_far ?_ NB291_294.out _; exact bx BK291.out⟩, ⟨by refine pl ?_; refine blk_far ?_ NB294_295.out _; refine pl ?_; refine blk_far ?_ NB294_295.out _; refine pl ?_; refine blk_far ?_ NB294_295.out _; refine pl ?_; refine blk_far ?_ NB294_295.out _; refine pl ?_; refine blk_put (cs := #[.int .i64 ((rd_T64 l0_0 a1).f0), .int .i64 ((rd_T64 l0_0 a1).f1), .string ((rd_T64 l0_0 a1).f2), .slice none 0 0]) ?_ 3 _ rfl; refine pl ?_; refine blk_put (cs := #[.int .i64 ((rd_T64 l0_0 a1).f0), .int .i64 ((rd_T64 l0_0 a1).f1), .string (⟨#[]⟩ : ByteArray), .slice none 0 0]) ?_ 2 _ rfl; refine pl ?_; refine blk_put (cs := #[.int .i64 ((rd_T64 l0_0 a1).f0), .int .i64 0, .string (⟨#[]⟩ : ByteArray), .slice none 0 0]) ?_ 1 _ rfl; refine pl ?_; refine blk_put (cs := #[.int .i64 0, .int .i64 0, .string (⟨#[]⟩ : ByteArray), .slice none 0 0]) ?_ 0 _ rfl; exact bx BK294.out⟩, ⟨by refine pl ?_; refine blk_put (cs := #[.int .i64 ((rd_T64 l2_0 a3).f0), .int .i64 ((rd_T64 l2_0 a3).f1), .string ((rd_T64 l2_0 a3).f2), .slice none 0 0]) ?_ 3 _ rfl; refine pl ?_; refine blk_put (cs := #[.int .i64 ((rd_T64 l2_0 a3).f0), .int .i64 ((rd_T64 l2_0 a3).f1), .string (⟨#[]⟩ : ByteArray), .slice none 0 0]) ?_ 2 _ rfl; refine pl ?_; refine blk_put (cs := #[.int .i64 ((rd_T64 l2_0 a3).f0), .int .i64 0, .string (⟨#[]⟩ : ByteArray), .slice none 0 0]) ?_ 1 _ rfl; refine pl ?_; refine blk_put (cs := #[.int .i64 0, .int .i64 0, .string (⟨#[]⟩ : ByteArray), .slice none 0 0]) ?_ 0 _ rfl; refine pl ?_; refine blk_far ?_ NB295_294.out _; refine pl ?_; refine blk_far ?_ NB295_294.out _; refine pl ?_; refine blk_far ?_ NB295_294.out _; refine pl ?_; refine blk_far ?_ NB295_294.out _; exact bx BK295.out⟩, ⟨be w⟩⟩
  rw [if_pos c24] at H
  have c24b0 : (((rd_T64 l0_0 a1).f0) == ((rd_T64 l2_0 a3).f0)) = true := beq_iff_eq.mpr c24
  have c24b1 : (((rd_T64 l0_0 a1).f0) != ((rd_T64 l2_0 a3).f0)) = false := bne_eq_false_iff_eq.mpr c24
  clear c24
  (first | rw [c24b0] | (simp only [i64_w, i32_w]; rw [c24b0]) | skip)
  by_cases c25 : ((rd_T64 l0_0 a1).f1) = ((rd_T64 l2_0 a3).f1)
  rotate_left
  ·
   rw [if_neg c25] at H
   have c25b0 : (((rd_T64 l0_0 a1).f1) == ((rd_T64 l2_0 a3).f1)) = false := beq_eq_false_iff_ne.mpr c25
   have c25b1 : (((rd_T64 l0_0 a1).f1) != ((rd_T64 l2_0 a3).f1)) = true := bne_iff_ne.mpr c25
   have H' := As.mk H
   clear H
   have hnb41 := NB294_290.out
   have hnc41 := NB290_294.out
   have hnb42 := NB294_291.out
   have hnc42 := NB291_294.out
   have hnb43 := NB294_295.out
   have hnc43 := NB295_294.out
   obtain ⟨hcz44_0, hcz44_1, hcz44_2, hcz44_3, hfz44_0, hfz44_1, hfz44_2, hfz44_3⟩ := cl4 BK294.out
   have hnb45 := NB295_290.out
   have hnc45 := NB290_295.out
   have hnb46 := NB295_291.out
   have hnc46 := NB291_295.out
   obtain ⟨hcz47_0, hcz47_1, hcz47_2, hcz47_3, hfz47_0, hfz47_1, hfz47_2, hfz47_3⟩ := cl4 BK295.out
   go_wp2
   go_meet
   case rel => exact ⟨_, (true), (by first | rfl | (simp; done) | (simp [*]; done)), H', ⟨by first | omega | exact Nat.le_refl _⟩, ⟨by refine pl ?_; refine blk_far ?_ NB290_295.out _; refine pl ?_; refine blk_far ?_ NB290_295.out _; refine pl ?_; refine blk_far ?_ NB290_295.out _; refine pl ?_; refine blk_far ?_ NB290_295.out _; refine pl ?_; refine blk_far ?_ NB290_294.out _; refine pl ?_; refine blk_far ?_ NB290_294.out _; refine pl ?_; refine blk_far ?_ NB290_294.out _; refine pl ?_; refine blk_far ?_ NB290_294.out _; exact bx BK290.out⟩, ⟨by refine pl ?_; refine blk_far ?_ NB291_295.out _; refine pl ?_; refine blk_far ?_ NB291_295.out _; refine pl ?_; refine blk_far ?_ NB291_295.out _; refine pl ?_; refine blk_far ?_ NB291_295.out _; refine pl ?_; refine blk_far ?_ NB291_294.out _; refine pl ?_; refine blk_far ?_ NB291_294.out _; refine pl ?_; refine blk_far ?_ NB291_294.out _; refine pl ?_; refine blk_far ?_ NB291_294.out _; exact bx BK291.out⟩, ⟨by refine pl ?_; refine blk_far ?_ NB294_295.out _; refine pl ?_; refine blk_far ?_ NB294_295.out _; refine pl ?_; refine blk_far ?_ NB294_295.out _; refine pl ?_; refine blk_far ?_ NB294_295.out _; refine pl ?_; refine blk_put (cs := #[.int .i64 ((rd_T64 l0_0 a1).f0), .int .i64 ((rd_T64 l0_0 a1).f1), .string ((rd_T64 l0_0 a1).f2), .slice none 0 0]) ?_ 3 _ rfl; refine pl ?_; refine blk_put (cs := #[.int .i64 ((rd_T64 l0_0 a1).f0), .int .i64 ((rd_T64 l0_0 a1).f1), .string (⟨#[]⟩ : ByteArray), .slice none 0 0]) ?_ 2 _ rfl; refine pl ?_; refine blk_put (cs := #[.int .i64 ((rd_T64 l0_0 a1).f0), .int .i64 0, .string (⟨#[]⟩ : ByteArray), .slice none 0 0]) ?_ 1 _ rfl; refine pl ?_; refine blk_put (cs := #[.int .i64 0, .int .i64 0, .string (⟨#[]⟩ : ByteArray), .slice none 0 0]) ?_ 0 _ rfl; exact bx BK294.out⟩, ⟨by refine pl ?_; refine blk_put (cs := #[.int .i64 ((rd_T64 l2_0 a3).f0), .int .i64 ((rd_T64 l2_0 a3).f1), .string ((rd_T64 l2_0 a3).f2), .slice none 0 0]) ?_ 3 _ rfl; refine pl ?_; refine blk_put (cs := #[.int .i64 ((rd_T64 l2_0 a3).f0), .int .i64 ((rd_T64 l2_0 a3).f1), .string (⟨#[]⟩ : ByteArray), .slice none 0 0]) ?_ 2 _ rfl; refine pl ?_; refine blk_put (cs := #[.int .i64 ((rd_T64 l2_0 a3).f0), .int .i64 0, .string (⟨#[]⟩ : ByteArray), .slice none 0 0]) ?_ 1 _ rfl; refine pl ?_; refine blk_put (cs := #[.int .i64 0, .int .i64 0, .string (⟨#[]⟩ : ByteArray), .slice none 0 0]) ?_ 0 _ rfl; refine pl ?_; refine blk_far ?_ NB295_294.out _; refine pl ?_; refine blk_far ?_ NB295_294.out _; refine pl ?_; refine blk_far ?_ NB295_294.out _; refine pl ?_; refine blk_far ?_ NB295_294.out _; exact bx BK295.out⟩, ⟨be w⟩⟩
  rw [if_pos c25] at H
  have c25b0 : (((rd_T64 l0_0 a1).f1) == ((rd_T64 l2_0 a3).f1)) = true := beq_iff_eq.mpr c25
  have c25b1 : (((rd_T64 l0_0 a1).f1) != ((rd_T64 l2_0 a3).f1)) = false := bne_eq_false_iff_eq.mpr c25
  clear c25
  by_cases c26 : ((rd_T64 l0_0 a1).f2).toList = ((rd_T64 l2_0 a3).f2).toList
  rotate_left
  ·
   rw [if_neg c26] at H
   have c26b0 : (((rd_T64 l0_0 a1).f2).toList == ((rd_T64 l2_0 a3).f2).toList) = false := beq_eq_false_iff_ne.mpr c26
   have c26b1 : (((rd_T64 l0_0 a1).f2).toList != ((rd_T64 l2_0 a3).f2).toList) = true := bne_iff_ne.mpr c26
   have H' := As.mk H
   clear H
   have hnb34 := NB294_290.out
   have hnc34 := NB290_294.out
   have hnb35 := NB294_291.out
   have hnc35 := NB291_294.out
   have hnb36 := NB294_295.out
   have hnc36 := NB295_294.out
   obtain ⟨hcz37_0, hcz37_1, hcz37_2, hcz37_3, hfz37_0, hfz37_1, hfz37_2, hfz37_3⟩ := cl4 BK294.out
   have hnb38 := NB295_290.out
   have hnc38 := NB290_295.out
   have hnb39 := NB295_291.out
   have hnc39 := NB291_295.out
   obtain ⟨hcz40_0, hcz40_1, hcz40_2, hcz40_3, hfz40_0, hfz40_1, hfz40_2, hfz40_3⟩ := cl4 BK295.out
   go_wp2
   go_meet
   case rel => exact ⟨_, (true), (by first | rfl | (simp; done) | (simp [*]; done)), H', ⟨by first | omega | exact Nat.le_refl _⟩, ⟨by refine pl ?_; refine blk_far ?_ NB290_295.out _; refine pl ?_; refine blk_far ?_ NB290_295.out _; refine pl ?_; refine blk_far ?_ NB290_295.out _; refine pl ?_; refine blk_far ?_ NB290_295.out _; refine pl ?_; refine blk_far ?_ NB290_294.out _; refine pl ?_; refine blk_far ?_ NB290_294.out _; refine pl ?_; refine blk_far ?_ NB290_294.out _; refine pl ?_; refine blk_far ?_ NB290_294.out _; exact bx BK290.out⟩, ⟨by refine pl ?_; refine blk_far ?_ NB291_295.out _; refine pl ?_; refine blk_far ?_ NB291_295.out _; refine pl ?_; refine blk_far ?_ NB291_295.out _; refine pl ?_; refine blk_far ?_ NB291_295.out _; refine pl ?_; refine blk_far ?_ NB291_294.out _; refine pl ?_; refine blk_far ?_ NB291_294.out _; refine pl ?_; refine blk_far ?_ NB291_294.out _; refine pl ?_; refine blk_far ?_ NB291_294.out _; exact bx BK291.out⟩, ⟨by refine pl ?_; refine blk_far ?_ NB294_295.out _; refine pl ?_; refine blk_far ?_ NB294_295.out _; refine pl ?_; refine blk_far ?_ NB294_295.out _; refine pl ?_; refine blk_far ?_ NB294_295.out _; refine pl ?_; refine blk_put (cs := #[.int .i64 ((rd_T64 l0_0 a1).f0), .int .i64 ((rd_T64 l0_0 a1).f1), .string ((rd_T64 l0_0 a1).f2), .slice none 0 0]) ?_ 3 _ rfl; refine pl ?_; refine blk_put (cs := #[.int .i64 ((rd_T64 l0_0 a1).f0), .int .i64 ((rd_T64 l0_0 a1).f1), .string (⟨#[]⟩ : ByteArray), .slice none 0 0]) ?_ 2 _ rfl; refine pl ?_; refine blk_put (cs := #[.int .i64 ((rd_T64 l0_0 a1).f0), .int .i64 0, .string (⟨#[]⟩ : ByteArray), .slice none 0 0]) ?_ 1 _ rfl; refine pl ?_; refine blk_put (cs := #[.int .i64 0, .int .i64 0, .string (⟨#[]⟩ : ByteArray), .slice none 0 0]) ?_ 0 _ rfl; exact bx BK294.out⟩, ⟨by refine pl ?_; refine blk_put (cs := #[.int .i64 ((rd_T64 l2_0 a3).f0), .int .i64 ((rd_T64 l2_0 a3).f1), .string ((rd_T64 l2_0 a3).f2), .slice none 0 0]) ?_ 3 _ rfl; refine pl ?_; refine blk_put (cs := #[.int .i64 ((rd_T64 l2_0 a3).f0), .int .i64 ((rd_T64 l2_0 a3).f1), .string (⟨#[]⟩ : ByteArray), .slice none 0 0]) ?_ 2 _ rfl; refine pl ?_; refine blk_put (cs := #[.int .i64 ((rd_T64 l2_0 a3).f0), .int .i64 0, .string (⟨#[]⟩ : ByteArray), .slice none 0 0]) ?_ 1 _ rfl; refine pl ?_; refine blk_put (cs := #[.int .i64 0, .int .i64 0, .string (⟨#[]⟩ : ByteArray), .slice none 0 0]) ?_ 0 _ rfl; refine pl ?_; refine blk_far ?_ NB295_294.out _; refine pl ?_; refine blk_far ?_ NB295_294.out _; refine pl ?_; refine blk_far ?_ NB295_294.out _; refine pl ?_; refine blk_far ?_ NB295_294.out _; exact bx BK295.out⟩, ⟨be w⟩⟩
  rw [if_pos c26] at H
  have c26b0 : (((rd_T64 l0_0 a1).f2).toList == ((rd_T64 l2_0 a3).f2).toList) = true := beq_iff_eq.mpr c26
  have c26b1 : (((rd_T64 l0_0 a1).f2).toList != ((rd_T64 l2_0 a3).f2).toList) = false := bne_eq_false_iff_eq.mpr c26
  clear c26
  have H' := As.mk H
  clear H
  have hnb27 := NB294_290.out
  have hnc27 := NB290_294.out
  have hnb28 := NB294_291.out
  have hnc28 := NB291_294.out
  have hnb29 := NB294_295.out
  have hnc29 := NB295_294.out
  obtain ⟨hcz30_0, hcz30_1, hcz30_2, hcz30_3, hfz30_0, hfz30_1, hfz30_2, hfz30_3⟩ := cl4 BK294.out
  have hnb31 := NB295_290.out
  have hnc31 := NB290_295.out
  have hnb32 := NB295_291.out
  have hnc32 := NB291_295.out
  obtain ⟨hcz33_0, hcz33_1, hcz33_2, hcz33_3, hfz33_0, hfz33_1, hfz33_2, hfz33_3⟩ := cl4 BK295.out
  go_wp2
  go_meet
  case rel => exact ⟨_, (((((rd_T64 l0_0 a1).f3).length : Int) != (((rd_T64 l2_0 a3).f3).length : Int))), (by first | rfl | (simp; done) | (simp [*]; done)), H', ⟨by first | omega | exact Nat.le_refl _⟩, ⟨by refine pl ?_; refine blk_far ?_ NB290_295.out _; refine pl ?_; refine blk_far ?_ NB290_295.out _; refine pl ?_; refine blk_far ?_ NB290_295.out _; refine pl ?_; refine blk_far ?_ NB290_295.out _; refine pl ?_; refine blk_far ?_ NB290_294.out _; refine pl ?_; refine blk_far ?_ NB290_294.out _; refine pl ?_; refine blk_far ?_ NB290_294.out _; refine pl ?_; refine blk_far ?_ NB290_294.out _; exact bx BK290.out⟩, ⟨by refine pl ?_; refine blk_far ?_ NB291_295.out _; refine pl ?_; refine blk_far ?_ NB291_295.out _; refine pl ?_; refine blk_far ?_ NB291_295.out _; refine pl ?_; refine blk_far ?_ NB291_295.out _; refine pl ?_; refine blk_far ?_ NB291_294.out _; refine pl ?_; refine blk_far ?_ NB291_294.out _; refine pl ?_; refine blk_far ?_ NB291_294.out _; refine pl ?_; refine blk_far ?_ NB291_294.out _; exact bx BK291.out⟩, ⟨by refine pl ?_; refine blk_far ?_ NB294_295.out _; refine pl ?_; refine blk_far ?_ NB294_295.out _; refine pl ?_; refine blk_far ?_ NB294_295.out _; refine pl ?_; refine blk_far ?_ NB294_295.out _; refine pl ?_; refine blk_put (cs := #[.int .i64 ((rd_T64 l0_0 a1).f0), .int .i64 ((rd_T64 l0_0 a1).f1), .string ((rd_T64 l0_0 a1).f2), .slice none 0 0]) ?_ 3 _ rfl; refine pl ?_; refine blk_put (cs := #[.int .i64 ((rd_T64 l0_0 a1).f0), .int .i64 ((rd_T64 l0_0 a1).f1), .string (⟨#[]⟩ : ByteArray), .slice none 0 0]) ?_ 2 _ rfl; refine pl ?_; refine blk_put (cs := #[.int .i64 ((rd_T64 l0_0 a1).f0), .int .i64 0, .string (⟨#[]⟩ : ByteArray), .slice none 0 0]) ?_ 1 _ rfl; refine pl ?_; refine blk_put (cs := #[.int .i64 0, .int .i64 0, .string (⟨#[]⟩ : ByteArray), .slice none 0 0]) ?_ 0 _ rfl; exact bx BK294.out⟩, ⟨by refine pl ?_; refine blk_put (cs := #[.int .i64 ((rd_T64 l2_0 a3).f0), .int .i64 ((rd_T64 l2_0 a3).f1), .string ((rd_T64 l2_0 a3).f2), .slice none 0 0]) ?_ 3 _ rfl; refine pl ?_; refine blk_put (cs := #[.int .i64 ((rd_T64 l2_0 a3).f0), .int .i64 ((rd_T64 l2_0 a3).f1), .string (⟨#[]⟩ : ByteArray), .slice none 0 0]) ?_ 2 _ rfl; refine pl ?_; refine blk_put (cs := #[.int .i64 ((rd_T64 l2_0 a3).f0), .int .i64 0, .string (⟨#[]⟩ : ByteArray), .slice none 0 0]) ?_ 1 _ rfl; refine pl ?_; refine blk_put (cs := #[.int .i64 0, .int .i64 0, .string (⟨#[]⟩ : ByteArray), .slice none 0 0]) ?_ 0 _ rfl; refine pl ?_; refine blk_far ?_ NB295_294.out _; refine pl ?_; refine blk_far ?_ NB295_294.out _; refine pl ?_; refine blk_far ?_ NB295_294.out _; refine pl ?_; refine blk_far ?_ NB295_294.out _; exact bx BK295.out⟩, ⟨be w⟩⟩
 case rest =>
  clear HC9
  (try clear c5); (try clear c5b0); (try clear c6); (try clear c6b0); (try clear c7); (try clear c7b0); (try clear c8); (try clear c8b0); (try clear hx292_0); (try clear hx292_1); (try clear hx292_2); (try clear hx292_3); (try clear hx293_0); (try clear hx293_1); (try clear hx293_2); (try clear hx293_3); (try clear p292); (try clear p293); (try clear q292); (try clear q293)
  obtain ⟨kq, x49_8, rfl, HA, HJ8, BK290, BK291, BK294, BK295, HB⟩ := hcut
  cases kq with
  | zero => exact absurd HA.out (by simp [impl_sameTree.j0])
  | succ kj8 =>
   have H := HA.out
   clear HA
   simp only [impl_sameTree.j0] at H
   by_cases c55 : x49_8 = true
   ·
    subst c55
    rw [if_pos rfl] at H
    obtain rfl := Option.some.inj H
    go_wp2
    go_ret
    exact ⟨by first | rfl | (simp [errW_none, errW_some] <;> rfl) | (simp [*, errW_none, errW_some] <;> rfl), be w⟩
   replace c55 := Bool.eq_false_iff.mpr c55
   subst c55
   rw [if_neg (show ¬ (false = true) by decide)] at H
   have H' := As.mk H
   clear H
   have hnb56 := NB294_290.out
   have hnc56 := NB290_294.out
   have hnb57 := NB294_291.out
   have hnc57 := NB291_294.out
   have hnb58 := NB294_295.out
   have hnc58 := NB295_294.out
   obtain ⟨hcz59_0, hcz59_1, hcz59_2, hcz59_3, hfz59_0, hfz59_1, hfz59_2, hfz59_3⟩ := cl4 BK294.out
   go_wp2
   go_loopg [53] kj8 (fun kq v53 w' => ∃ (x53_2 : Int), v53 = .int .i64 x53_2 ∧ As (impl_sameTree.l0 kq (((rd_T64 l0_0 a1).f3).length : Int) x53_2 l0_0 l0_1 l2_0 l2_1 ((rd_T64 l0_0 a1).f0) ((rd_T64 l0_0 a1).f1) ((rd_T64 l0_0 a1).f2) ((rd_T64 l0_0 a1).f3) ((rd_T64 l2_0 a3).f0) ((rd_T64 l2_0 a3).f1) ((rd_T64 l2_0 a3).f2) ((rd_T64 l2_0 a3).f3) = some r) ∧ As (kq ≤ kj8) ∧ As (w'.heap[gb290]? = some (.cells #[(.slice (some ad292) l0_0.length c0_0), (.slice A0_1 l0_1.length c0_1)] 52 (0, 0))) ∧ As (w'.heap[gb291]? = some (.cells #[(.slice (some ad293) l2_0.length c2_0), (.slice A2_1 l2_1.length c2_1)] 52 (0, 0))) ∧ As (w'.heap[gb294]? = some (.cells #[.int .i64 ((rd_T64 l0_0 a1).f0), .int .i64 ((rd_T64 l0_0 a1).f1), .string ((rd_T64 l0_0 a1).f2), (.slice A292_3 ((rd_T64 l0_0 a1).f3).length c292_3)] 64 (0, 0))) ∧ As (w'.heap[gb295]? = some (.cells #[.int .i64 ((rd_T64 l2_0 a3).f0), .int .i64 ((rd_T64 l2_0 a3).f1), .string ((rd_T64 l2_0 a3).f2), (.slice A293_3 ((rd_T64 l2_0 a3).f3).length c293_3)] 64 (0, 0))) ∧ As (Below w.heap.size w w'))
   case atStart => exact ⟨(0), (by first | rfl | (simp; done) | (simp [*]; done)), H', ⟨Nat.le_refl _⟩, ⟨bx BK290.out⟩, ⟨bx BK291.out⟩, ⟨bx BK294.out⟩, ⟨bx BK295.out⟩, ⟨be w⟩⟩
   case round =>
    clear H'
    (try clear c5); (try clear c5b0); (try clear c6); (try clear c6b0); (try clear c7); (try clear c7b0); (try clear c8); (try clear c8b0); (try clear c55); (try clear hcz59_0); (try clear hcz59_1); (try clear hcz59_2); (try clear hcz59_3); (try clear hfz59_0); (try clear hfz59_1); (try clear hfz59_2); (try clear hfz59_3); (try clear hx292_0); (try clear hx292_1); (try clear hx292_2); (try clear hx292_3); (try clear hx293_0); (try clear hx293_1); (try clear hx293_2); (try clear hx293_3); (try clear p292); (try clear p293); (try clear q292); (try clear q293)
    obtain ⟨x53_2, rfl, HA, HK2, BK290, BK291, BK294, BK295, HB⟩ := hrel
    cases gk with
    | zero => exact absurd HA.out (by simp [impl_sameTree.l0])
    | succ k2 =>
     have H := HA.out
     clear HA
     simp only [impl_sameTree.l0] at H
     by_cases c60 : x53_2 < (((rd_T64 l0_0 a1).f3).length : Int)
     rotate_left
     ·
      rw [if_neg c60] at H
      have c60b0 : decide (x53_2 < (((rd_T64 l0_0 a1).f3).length : Int)) = false := decide_eq_false c60
      clear c60
      obtain rfl := Option.some.inj H
      go_wp2
      go_ret
      exact ⟨by first | rfl | (simp [errW_none, errW_some] <;> rfl) | (simp [*, errW_none, errW_some] <;> rfl), be w⟩
     rw [if_pos c60] at H
     have c60b0 : decide (x53_2 < (((rd_T64 l0_0 a1).f3).length : Int)) = true := decide_eq_true c60
     clear c60
     by_cases c61 : 0 ≤ x53_2
     rotate_left
     ·
      rw [if_neg c61] at H
      exact absurd H (by simp)
     rw [if_pos c61] at H
     have c61b0 : decide (0 ≤ x53_2) = true := decide_eq_true c61
     clear c61
     by_cases c62 : x53_2 < (((rd_T64 l0_0 a1).f3).length : Int)
     rotate_left
     ·
      rw [if_neg c62] at H
      exact absurd H (by simp)
     rw [if_pos c62] at H
     have c62b0 : decide (x53_2 < (((rd_T64 l0_0 a1).f3).length : Int)) = true := decide_eq_true c62
     clear c62
     by_cases c63 : x53_2 < (((rd_T64 l2_0 a3).f3).length : Int)
     rotate_left
     ·
      rw [if_neg c63] at H
      exact absurd H (by simp)
     rw [if_pos c63] at H
     have c63b0 : decide (x53_2 < (((rd_T64 l2_0 a3).f3).length : Int)) = true := decide_eq_true c63
     clear c63
     obtain ⟨t298, A640, H⟩ := Option.bind_eq_some_iff.mp H
     try dsimp only at H
     have A64 := As.mk A640
     clear A640
     by_cases c65 : t298 = true
     rotate_left
     ·
      replace c65 := Bool.eq_false_iff.mpr c65
      subst c65
      rw [if_neg (show ¬ (false = true) by decide)] at H
      obtain rfl := Option.some.inj H
      try go_wp2
      replace BK290 := As.mk (blk_drew BK290.out)
      replace BK291 := As.mk (blk_drew BK291.out)
      replace BK294 := As.mk (blk_drew BK294.out)
      replace BK295 := As.mk (blk_drew BK295.out)
      replace HB := As.mk (below_drew1 HB.out)
      have p296 : 0 ≤ (x53_2 : Int) := of_decide_eq_true (by first | (with_reducible assumption) | assumption)
      have q296 : x53_2 < (((rd_T64 l0_0 a1).f3).length : Int) := of_decide_eq_true (by first | (with_reducible assumption) | assumption)
      obtain ⟨ad296, e296, hx296_0⟩ := Kd.at_int HR292_3.out x53_2 p296 q296
      have hw296_0 := hx296_0
      cases e296
      replace hx296_0 := ce HB.out hx296_0
      replace p296 := eq_true p296
      replace q296 := eq_true q296
      have p297 : 0 ≤ (x53_2 : Int) := of_decide_eq_true (by first | (with_reducible assumption) | assumption)
      have q297 : x53_2 < (((rd_T64 l2_0 a3).f3).length : Int) := of_decide_eq_true (by first | (with_reducible assumption) | assumption)
      obtain ⟨ad297, e297, hx297_0⟩ := Kd.at_int HR293_3.out x53_2 p297 q297
      have hw297_0 := hx297_0
      cases e297
      replace hx297_0 := ce HB.out hx297_0
      replace p297 := eq_true p297
      replace q297 := eq_true q297
      refine start_ (n := 14) (S := fun w' => w'.cell? ⟨gb290, 0, none⟩ = some (.slice (some ad292) l0_0.length c0_0) ∧ w'.cell? ⟨gb290, 1, none⟩ = some (.slice A0_1 l0_1.length c0_1) ∧ w'.cell? ⟨gb294, 0, none⟩ = some (.int .i64 ((rd_T64 l0_0 a1).f0)) ∧ w'.cell? ⟨gb294, 1, none⟩ = some (.int .i64 ((rd_T64 l0_0 a1).f1)) ∧ w'.cell? ⟨gb294, 2, none⟩ = some (.string ((rd_T64 l0_0 a1).f2)) ∧ w'.cell? ⟨gb294, 3, none⟩ = some (.slice (some ad296) ((rd_T64 l0_0 a1).f3).length c292_3) ∧ w'.cell? ⟨gb291, 0, none⟩ = some (.slice (some ad293) l2_0.length c2_0) ∧ w'.cell? ⟨gb291, 1, none⟩ = some (.slice A2_1 l2_1.length c2_1) ∧ w'.cell? ⟨gb295, 0, none⟩ = some (.int .i64 ((rd_T64 l2_0 a3).f0)) ∧ w'.cell? ⟨gb295, 1, none⟩ = some (.int .i64 ((rd_T64 l2_0 a3).f1)) ∧ w'.cell? ⟨gb295, 2, none⟩ = some (.string ((rd_T64 l2_0 a3).f2)) ∧ w'.cell? ⟨gb295, 3, none⟩ = some (.slice (some ad297) ((rd_T64 l2_0 a3).f3).length c293_3) ∧ w'.cell? (ad296.add (x53_2).toNat) = some (.int .i64 (rd ((rd_T64 l0_0 a1).f3) x53_2)) ∧ w'.cell? (ad297.add (x53_2).toNat) = some (.int .i64 (rd ((rd_T64 l2_0 a3).f3) x53_2))) (ds := []) #[O, O, O, O, O, O, O, O, O, O, O, O, O, O] (by kernel_rfl) rfl rfl ⟨(blk_cell BK290.out 0).trans rfl, (blk_cell BK290.out 1).trans rfl, (blk_cell BK294.out 0).trans rfl, (blk_cell BK294.out 1).trans rfl, (blk_cell BK294.out 2).trans rfl, (blk_cell BK294.out 3).trans rfl, (blk_cell BK291.out 0).trans rfl, (blk_cell BK291.out 1).trans rfl, (blk_cell BK295.out 0).trans rfl, (blk_cell BK295.out 1).trans rfl, (blk_cell BK295.out 2).trans rfl, (blk_cell BK295.out 3).trans rfl, (ce HB.out hw296_0 :), (ce HB.out hw297_0 :)⟩ (fun hHeld => ?_); refine with_tabW impl_sameTree.tab7 impl_sameTree.bits7 (fun HT_ HW_ => ?_)
      generalize wr.drew = w68 at BK290 BK291 BK294 BK295 HB hx296_0 hx297_0 hHeld ⊢
      refine pure_ (i := 1) (N := some 57) (v := ?_) (a' := ?_) #[O, I, O, O, O, O, O, O, O, O, O, O, O, O] rfl rfl (any_of HT_.out (by kernel_rfl)) (fun _ _ _ h => h) (Or.inl ⟨by rfl, ?_⟩) ?_ ?_
      rotate_left
      ·
       intro w'
       go_simp
       with_reducible rfl
      rotate_left
      ·
       simp only [pk, i64_w, i32_w]
       rfl
      refine pure_ (i := 3) (N := some 59) (v := ?_) (a' := ?_) #[O, I, O, I, O, O, O, O, O, O, O, O, O, O] rfl rfl (any_of HT_.out (by kernel_rfl)) (fun _ _ _ h => h) (Or.inl ⟨by rfl, ?_⟩) ?_ ?_
      rotate_left
      ·
       intro w'
       go_simp
       with_reducible rfl
      rotate_left
      ·
       simp only [pk, i64_w, i32_w]
       rfl
      refine pure_ (i := 7) (N := some 63) (v := ?_) (a' := ?_) #[O, I, O, I, O, O, O, I, O, O, O, O, O, O] rfl rfl (any_of HT_.out (by kernel_rfl)) (fun _ _ _ h => h) (Or.inl ⟨by rfl, ?_⟩) ?_ ?_
      rotate_left
      ·
       intro w'
       go_simp
       with_reducible rfl
      rotate_left
      ·
       simp only [pk, i64_w, i32_w]
       rfl
      refine pure_ (i := 9) (N := some 65) (v := ?_) (a' := ?_) #[O, I, O, I, O, O, O, I, O, I, O, O, O, O] rfl rfl (any_of HT_.out (by kernel_rfl)) (fun _ _ _ h => h) (Or.inl ⟨by rfl, ?_⟩) ?_ ?_
      rotate_left
      ·
       intro w'
       go_simp
       with_reducible rfl
      rotate_left
      ·
       simp only [pk, i64_w, i32_w]
       rfl
      refine take_ (i := 0) (N := some 56) (v := ?_) (a' := ?_) #[I, I, O, I, O, O, O, I, O, I, O, O, O, O] rfl rfl (take_ofW HT_.out HW_.out (by kernel_rfl)) (fun _ _ _ h => h) (Or.inl ⟨by rfl, ?_⟩) hHeld ?_ ?_
      rotate_left
      ·
       rintro w' ⟨s0, s1, s2, s3, s4, s5, s6, s7, s8, s9, s10, s11, s12, s13⟩
       go_simp
       with_reducible rfl
      rotate_left
      ·
       simp only [pk, i64_w, i32_w]
       rfl
      refine take_ (i := 2) (N := some 58) (v := ?_) (a' := ?_) #[I, I, I, I, O, O, O, I, O, I, O, O, O, O] rfl rfl (take_ofW HT_.out HW_.out (by kernel_rfl)) (fun _ _ _ h => h) (Or.inl ⟨by rfl, ?_⟩) hHeld ?_ ?_
      rotate_left
      ·
       rintro w' ⟨s0, s1, s2, s3, s4, s5, s6, s7, s8, s9, s10, s11, s12, s13⟩
       go_simp
       with_reducible rfl
      rotate_left
      ·
       simp only [pk, i64_w, i32_w]
       rfl
      refine pure_ (i := 4) (N := some 60) (v := ?_) (a' := ?_) #[I, I, I, I, I, O, O, I, O, I, O, O, O, O] rfl rfl (any_of HT_.out (by kernel_rfl)) (fun _ _ _ h => h) (Or.inl ⟨by rfl, ?_⟩) ?_ ?_
      rotate_left
      ·
       intro w'
       go_simp
       with_reducible rfl
      rotate_left
      ·
       simp only [pk, i64_w, i32_w]
       rfl
      refine take_ (i := 5) (N := some 61) (v := ?_) (a' := ?_) #[I, I, I, I, I, I, O, I, O, I, O, O, O, O] rfl rfl (take_ofW HT_.out HW_.out (by kernel_rfl)) (fun _ _ _ h => h) (Or.inl ⟨by rfl, ?_⟩) hHeld ?_ ?_
      rotate_left
      ·
       rintro w' ⟨s0, s1, s2, s3, s4, s5, s6, s7, s8, s9, s10, s11, s12, s13⟩
       go_simp
       with_reducible rfl
      rotate_left
      ·
       simp only [pk, i64_w, i32_w]
       rfl
      refine take_ (i := 6) (N := some 62) (v := ?_) (a' := ?_) #[I, I, I, I, I, I, I, I, O, I, O, O, O, O] rfl rfl (take_ofW HT_.out HW_.out (by kernel_rfl)) (fun _ _ _ h => h) (Or.inl ⟨by rfl, ?_⟩) hHeld ?_ ?_
      rotate_left
      ·
       rintro w' ⟨s0, s1, s2, s3, s4, s5, s6, s7, s8, s9, s10, s11, s12, s13⟩
       go_simp
       with_reducible rfl
      rotate_left
      ·
       simp only [pk, i64_w, i32_w]
       rfl
      refine take_ (i := 8) (N := some 64) (v := ?_) (a' := ?_) #[I, I, I, I, I, I, I, I, I, I, O, O, O, O] rfl rfl (take_ofW HT_.out HW_.out (by kernel_rfl)) (fun _ _ _ h => h) (Or.inl ⟨by rfl, ?_⟩) hHeld ?_ ?_
      rotate_left
      ·
       rintro w' ⟨s0, s1, s2, s3, s4, s5, s6, s7, s8, s9, s10, s11, s12, s13⟩
       go_simp
       with_reducible rfl
      rotate_left
      ·
       simp only [pk, i64_w, i32_w]
       rfl
      refine pure_ (i := 10) (N := some 66) (v := ?_) (a' := ?_) #[I, I, I, I, I, I, I, I, I, I, I, O, O, O] rfl rfl (any_of HT_.out (by kernel_rfl)) (fun _ _ _ h => h) (Or.inl ⟨by rfl, ?_⟩) ?_ ?_
      rotate_left
      ·
       intro w'
       go_simp
       with_reducible rfl
      rotate_left
      ·
       simp only [pk, i64_w, i32_w]
       rfl
      refine take_ (i := 11) (N := some 67) (v := ?_) (a' := ?_) #[I, I, I, I, I, I, I, I, I, I, I, I, O, O] rfl rfl (take_ofW HT_.out HW_.out (by kernel_rfl)) (fun _ _ _ h => h) (Or.inl ⟨by rfl, ?_⟩) hHeld ?_ ?_
      rotate_left
      ·
       rintro w' ⟨s0, s1, s2, s3, s4, s5, s6, s7, s8, s9, s10, s11, s12, s13⟩
       go_simp
       with_reducible rfl
      rotate_left
      ·
       simp only [pk, i64_w, i32_w]
       rfl
      refine one_ (i := 12) (N := some 68) #[I, I, I, I, I, I, I, I, I, I, I, I, I, O] rfl rfl (one_of HT_.out (by kernel_rfl)) (by decide) (fun K hK => ?_)
      refine goes_ Tryd.func70 (by kernel_rfl) rfl #[.agg #[.slice (some ad292) l0_0.length c0_0, .slice A0_1 l0_1.length c0_1], .int .i64 (rd ((rd_T64 l0_0 a1).f3) x53_2), .agg #[.slice (some ad293) l2_0.length c2_0, .slice A2_1 l2_1.length c2_1], .int .i64 (rd ((rd_T64 l2_0 a3).f3) x53_2)] (by rfl) rfl rfl (by (try simp only [lm]); first | done | rfl | (simp only [List.length_drop, List.length_take]; rfl)) ?_
      with_reducible refine (ih k2 (by have := HJ8.out; have := HK2.out; omega) _ _ l0_0 _ _ l0_1 (rd ((rd_T64 l0_0 a1).f3) x53_2) _ _ l2_0 _ _ l2_1 (rd ((rd_T64 l2_0 a3).f3) x53_2) false _ ?side1 ?side2 ?side3 ?side4 ?side5 ?side6 ?side7 ?side8 A64.out).mono ?_
      (case side1 => exact Kd.C_below HR0_0.out (be w))
      (case side2 => exact HC0_0.out)
      (case side3 => exact Kd.C_below HR0_1.out (be w))
      (case side4 => exact HC0_1.out)
      (case side5 => exact Kd.C_below HR2_0.out (be w))
      (case side6 => exact HC2_0.out)
      (case side7 => exact Kd.C_below HR2_1.out (be w))
      (case side8 => exact HC2_1.out)
      rintro e w69 ⟨rfl, hb⟩
      refine ⟨_, rfl, ?_⟩
      replace BK290 := As.mk (blk_below (bx BK290.out) hb)
      replace BK291 := As.mk (blk_below (bx BK291.out) hb)
      replace BK294 := As.mk (blk_below (bx BK294.out) hb)
      replace BK295 := As.mk (blk_below (bx BK295.out) hb)
      replace HB := As.mk (below_step (be w) hb)
      (try clear hb)
      (try clear hb2)
      (try clear hk)
      (try clear hi)
      refine hK.out _ _ ⟨(blk_cell BK290.out 0).trans rfl, (blk_cell BK290.out 1).trans rfl, (blk_cell BK294.out 0).trans rfl, (blk_cell BK294.out 1).trans rfl, (blk_cell BK294.out 2).trans rfl, (blk_cell BK294.out 3).trans rfl, (blk_cell BK291.out 0).trans rfl, (blk_cell BK291.out 1).trans rfl, (blk_cell BK295.out 0).trans rfl, (blk_cell BK295.out 1).trans rfl, (blk_cell BK295.out 2).trans rfl, (blk_cell BK295.out 3).trans rfl, (ce HB.out hw296_0 :), (ce HB.out hw297_0 :)⟩ (fun hHeld => ?_)
      clear hK K
      refine norm_ (a' := ?_) ?_ ?_
      rotate_left
      ·
       show Act.put _ (some 68) _ = _
       simp only [pk, i64_w, i32_w]
       rfl
      refine pure_ (i := 13) (N := some 69) (v := ?_) (a' := ?_) #[I, I, I, I, I, I, I, I, I, I, I, I, I, I] rfl rfl (any_of HT_.out (by kernel_rfl)) (fun _ _ _ h => h) (Or.inl ⟨by rfl, ?_⟩) ?_ ?_
      rotate_left
      ·
       intro w'
       go_simp
       with_reducible rfl
      rotate_left
      ·
       simp only [pk, i64_w, i32_w]
       rfl
      refine done_ (done_of HT_.out (by kernel_rfl)) ?_
      try go_wp2
      go_ret
      exact ⟨by first | rfl | (simp [errW_none, errW_some] <;> rfl) | (simp [*, errW_none, errW_some] <;> rfl), be w⟩
     subst c65
     rw [if_pos rfl] at H
     have H' := As.mk H
     clear H
     try go_wp2
     replace BK290 := As.mk (blk_drew BK290.out)
     replace BK291 := As.mk (blk_drew BK291.out)
     replace BK294 := As.mk (blk_drew BK294.out)
     replace BK295 := As.mk (blk_drew BK295.out)
     replace HB := As.mk (below_drew1 HB.out)
     have p296 : 0 ≤ (x53_2 : Int) := of_decide_eq_true (by first | (with_reducible assumption) | assumption)
     have q296 : x53_2 < (((rd_T64 l0_0 a1).f3).length : Int) := of_decide_eq_true (by first | (with_reducible assumption) | assumption)
     obtain ⟨ad296, e296, hx296_0⟩ := Kd.at_int HR292_3.out x53_2 p296 q296
     have hw296_0 := hx296_0
     cases e296
     replace hx296_0 := ce HB.out hx296_0
     replace p296 := eq_true p296
     replace q296 := eq_true q296
     have p297 : 0 ≤ (x53_2 : Int) := of_decide_eq_true (by first | (with_reducible assumption) | assumption)
     have q297 : x53_2 < (((rd_T64 l2_0 a3).f3).length : Int) := of_decide_eq_true (by first | (with_reducible assumption) | assumption)
     obtain ⟨ad297, e297, hx297_0⟩ := Kd.at_int HR293_3.out x53_2 p297 q297
     have hw297_0 := hx297_0
     cases e297
     replace hx297_0 := ce HB.out hx297_0
     replace p297 := eq_true p297
     replace q297 := eq_true q297
     refine start_ (n := 14) (S := fun w' => w'.cell? ⟨gb290, 0, none⟩ = some (.slice (some ad292) l0_0.length c0_0) ∧ w'.cell? ⟨gb290, 1, none⟩ = some (.slice A0_1 l0_1.length c0_1) ∧ w'.cell? ⟨gb294, 0, none⟩ = some (.int .i64 ((rd_T64 l0_0 a1).f0)) ∧ w'.cell? ⟨gb294, 1, none⟩ = some (.int .i64 ((rd_T64 l0_0 a1).f1)) ∧ w'.cell? ⟨gb294, 2, none⟩ = some (.string ((rd_T64 l0_0 a1).f2)) ∧ w'.cell? ⟨gb294, 3, none⟩ = some (.slice (some ad296) ((rd_T64 l0_0 a1).f3).length c292_3) ∧ w'.cell? ⟨gb291, 0, none⟩ = some (.slice (some ad293) l2_0.length c2_0) ∧ w'.cell? ⟨gb291, 1, none⟩ = some (.slice A2_1 l2_1.length c2_1) ∧ w'.cell? ⟨gb295, 0, none⟩ = some (.int .i64 ((rd_T64 l2_0 a3).f0)) ∧ w'.cell? ⟨gb295, 1, none⟩ = some (.int .i64 ((rd_T64 l2_0 a3).f1)) ∧ w'.cell? ⟨gb295, 2, none⟩ = some (.string ((rd_T64 l2_0 a3).f2)) ∧ w'.cell? ⟨gb295, 3, none⟩ = some (.slice (some ad297) ((rd_T64 l2_0 a3).f3).length c293_3) ∧ w'.cell? (ad296.add (x53_2).toNat) = some (.int .i64 (rd ((rd_T64 l0_0 a1).f3) x53_2)) ∧ w'.cell? (ad297.add (x53_2).toNat) = some (.int .i64 (rd ((rd_T64 l2_0 a3).f3) x53_2))) (ds := []) #[O, O, O, O, O, O, O, O, O, O, O, O, O, O] (by kernel_rfl) rfl rfl ⟨(blk_cell BK290.out 0).trans rfl, (blk_cell BK290.out 1).trans rfl, (blk_cell BK294.out 0).trans rfl, (blk_cell BK294.out 1).trans rfl, (blk_cell BK294.out 2).trans rfl, (blk_cell BK294.out 3).trans rfl, (blk_cell BK291.out 0).trans rfl, (blk_cell BK291.out 1).trans rfl, (blk_cell BK295.out 0).trans rfl, (blk_cell BK295.out 1).trans rfl, (blk_cell BK295.out 2).trans rfl, (blk_cell BK295.out 3).trans rfl, (ce HB.out hw296_0 :), (ce HB.out hw297_0 :)⟩ (fun hHeld => ?_); refine with_tabW impl_sameTree.tab7 impl_sameTree.bits7 (fun HT_ HW_ => ?_)
     generalize wr.drew = w66 at BK290 BK291 BK294 BK295 HB hx296_0 hx297_0 hHeld ⊢
     refine pure_ (i := 1) (N := some 57) (v := ?_) (a' := ?_) #[O, I, O, O, O, O, O, O, O, O, O, O, O, O] rfl rfl (any_of HT_.out (by kernel_rfl)) (fun _ _ _ h => h) (Or.inl ⟨by rfl, ?_⟩) ?_ ?_
     rotate_left
     ·
      intro w'
      go_simp
      with_reducible rfl
     rotate_left
     ·
      simp only [pk, i64_w, i32_w]
      rfl
     refine pure_ (i := 3) (N := some 59) (v := ?_) (a' := ?_) #[O, I, O, I, O, O, O, O, O, O, O, O, O, O] rfl rfl (any_of HT_.out (by kernel_rfl)) (fun _ _ _ h => h) (Or.inl ⟨by rfl, ?_⟩) ?_ ?_
     rotate_left
     ·
      intro w'
      go_simp
      with_reducible rfl
     rotate_left
     ·
      simp only [pk, i64_w, i32_w]
      rfl
     refine pure_ (i := 7) (N := some 63) (v := ?_) (a' := ?_) #[O, I, O, I, O, O, O, I, O, O, O, O, O, O] rfl rfl (any_of HT_.out (by kernel_rfl)) (fun _ _ _ h => h) (Or.inl ⟨by rfl, ?_⟩) ?_ ?_
     rotate_left
     ·
      intro w'
      go_simp
      with_reducible rfl
     rotate_left
     ·
      simp only [pk, i64_w, i32_w]
      rfl
     refine pure_ (i := 9) (N := some 65) (v := ?_) (a' := ?_) #[O, I, O, I, O, O, O, I, O, I, O, O, O, O] rfl rfl (any_of HT_.out (by kernel_rfl)) (fun _ _ _ h => h) (Or.inl ⟨by rfl, ?_⟩) ?_ ?_
     rotate_left
     ·
      intro w'
      go_simp
      with_reducible rfl
     rotate_left
     ·
      simp only [pk, i64_w, i32_w]
      rfl
     refine take_ (i := 0) (N := some 56) (v := ?_) (a' := ?_) #[I, I, O, I, O, O, O, I, O, I, O, O, O, O] rfl rfl (take_ofW HT_.out HW_.out (by kernel_rfl)) (fun _ _ _ h => h) (Or.inl ⟨by rfl, ?_⟩) hHeld ?_ ?_
     rotate_left
     ·
      rintro w' ⟨s0, s1, s2, s3, s4, s5, s6, s7, s8, s9, s10, s11, s12, s13⟩
      go_simp
      with_reducible rfl
     rotate_left
     ·
      simp only [pk, i64_w, i32_w]
      rfl
     refine take_ (i := 2) (N := some 58) (v := ?_) (a' := ?_) #[I, I, I, I, O, O, O, I, O, I, O, O, O, O] rfl rfl (take_ofW HT_.out HW_.out (by kernel_rfl)) (fun _ _ _ h => h) (Or.inl ⟨by rfl, ?_⟩) hHeld ?_ ?_
     rotate_left
     ·
      rintro w' ⟨s0, s1, s2, s3, s4, s5, s6, s7, s8, s9, s10, s11, s12, s13⟩
      go_simp
      with_reducible rfl
     rotate_left
     ·
      simp only [pk, i64_w, i32_w]
      rfl
     refine pure_ (i := 4) (N := some 60) (v := ?_) (a' := ?_) #[I, I, I, I, I, O, O, I, O, I, O, O, O, O] rfl rfl (any_of HT_.out (by kernel_rfl)) (fun _ _ _ h => h) (Or.inl ⟨by rfl, ?_⟩) ?_ ?_
     rotate_left
     ·
      intro w'
      go_simp
      with_reducible rfl
     rotate_left
     ·
      simp only [pk, i64_w, i32_w]
      rfl
     refine take_ (i := 5) (N := some 61) (v := ?_) (a' := ?_) #[I, I, I, I, I, I, O, I, O, I, O, O, O, O] rfl rfl (take_ofW HT_.out HW_.out (by kernel_rfl)) (fun _ _ _ h => h) (Or.inl ⟨by rfl, ?_⟩) hHeld ?_ ?_
     rotate_left
     ·
      rintro w' ⟨s0, s1, s2, s3, s4, s5, s6, s7, s8, s9, s10, s11, s12, s13⟩
      go_simp
      with_reducible rfl
     rotate_left
     ·
      simp only [pk, i64_w, i32_w]
      rfl
     refine take_ (i := 6) (N := some 62) (v := ?_) (a' := ?_) #[I, I, I, I, I, I, I, I, O, I, O, O, O, O] rfl rfl (take_ofW HT_.out HW_.out (by kernel_rfl)) (fun _ _ _ h => h) (Or.inl ⟨by rfl, ?_⟩) hHeld ?_ ?_
     rotate_left
     ·
      rintro w' ⟨s0, s1, s2, s3, s4, s5, s6, s7, s8, s9, s10, s11, s12, s13⟩
      go_simp
      with_reducible rfl
     rotate_left
     ·
      simp only [pk, i64_w, i32_w]
      rfl
     refine take_ (i := 8) (N := some 64) (v := ?_) (a' := ?_) #[I, I, I, I, I, I, I, I, I, I, O, O, O, O] rfl rfl (take_ofW HT_.out HW_.out (by kernel_rfl)) (fun _ _ _ h => h) (Or.inl ⟨by rfl, ?_⟩) hHeld ?_ ?_
     rotate_left
     ·
      rintro w' ⟨s0, s1, s2, s3, s4, s5, s6, s7, s8, s9, s10, s11, s12, s13⟩
      go_simp
      with_reducible rfl
     rotate_left
     ·
      simp only [pk, i64_w, i32_w]
      rfl
     refine pure_ (i := 10) (N := some 66) (v := ?_) (a' := ?_) #[I, I, I, I, I, I, I, I, I, I, I, O, O, O] rfl rfl (any_of HT_.out (by kernel_rfl)) (fun _ _ _ h => h) (Or.inl ⟨by rfl, ?_⟩) ?_ ?_
     rotate_left
     ·
      intro w'
      go_simp
      with_reducible rfl
     rotate_left
     ·
      simp only [pk, i64_w, i32_w]
      rfl
     refine take_ (i := 11) (N := some 67) (v := ?_) (a' := ?_) #[I, I, I, I, I, I, I, I, I, I, I, I, O, O] rfl rfl (take_ofW HT_.out HW_.out (by kernel_rfl)) (fun _ _ _ h => h) (Or.inl ⟨by rfl, ?_⟩) hHeld ?_ ?_
     rotate_left
     ·
      rintro w' ⟨s0, s1, s2, s3, s4, s5, s6, s7, s8, s9, s10, s11, s12, s13⟩
      go_simp
      with_reducible rfl
     rotate_left
     ·
      simp only [pk, i64_w, i32_w]
      rfl
     refine one_ (i := 12) (N := some 68) #[I, I, I, I, I, I, I, I, I, I, I, I, I, O] rfl rfl (one_of HT_.out (by kernel_rfl)) (by decide) (fun K hK => ?_)
     refine goes_ Tryd.func70 (by kernel_rfl) rfl #[.agg #[.slice (some ad292) l0_0.length c0_0, .slice A0_1 l0_1.length c0_1], .int .i64 (rd ((rd_T64 l0_0 a1).f3) x53_2), .agg #[.slice (some ad293) l2_0.length c2_0, .slice A2_1 l2_1.length c2_1], .int .i64 (rd ((rd_T64 l2_0 a3).f3) x53_2)] (by rfl) rfl rfl (by (try simp only [lm]); first | done | rfl | (simp only [List.length_drop, List.length_take]; rfl)) ?_
     with_reducible refine (ih k2 (by have := HJ8.out; have := HK2.out; omega) _ _ l0_0 _ _ l0_1 (rd ((rd_T64 l0_0 a1).f3) x53_2) _ _ l2_0 _ _ l2_1 (rd ((rd_T64 l2_0 a3).f3) x53_2) true _ ?side1 ?side2 ?side3 ?side4 ?side5 ?side6 ?side7 ?side8 A64.out).mono ?_
     (case side1 => exact Kd.C_below HR0_0.out (be w))
     (case side2 => exact HC0_0.out)
     (case side3 => exact Kd.C_below HR0_1.out (be w))
     (case side4 => exact HC0_1.out)
     (case side5 => exact Kd.C_below HR2_0.out (be w))
     (case side6 => exact HC2_0.out)
     (case side7 => exact Kd.C_below HR2_1.out (be w))
     (case side8 => exact HC2_1.out)
     rintro e w67 ⟨rfl, hb⟩
     refine ⟨_, rfl, ?_⟩
     replace BK290 := As.mk (blk_below (bx BK290.out) hb)
     replace BK291 := As.mk (blk_below (bx BK291.out) hb)
     replace BK294 := As.mk (blk_below (bx BK294.out) hb)
     replace BK295 := As.mk (blk_below (bx BK295.out) hb)
     replace HB := As.mk (below_step (be w) hb)
     (try clear hb)
     (try clear hb2)
     (try clear hk)
     (try clear hi)
     refine hK.out _ _ ⟨(blk_cell BK290.out 0).trans rfl, (blk_cell BK290.out 1).trans rfl, (blk_cell BK294.out 0).trans rfl, (blk_cell BK294.out 1).trans rfl, (blk_cell BK294.out 2).trans rfl, (blk_cell BK294.out 3).trans rfl, (blk_cell BK291.out 0).trans rfl, (blk_cell BK291.out 1).trans rfl, (blk_cell BK295.out 0).trans rfl, (blk_cell BK295.out 1).trans rfl, (blk_cell BK295.out 2).trans rfl, (blk_cell BK295.out 3).trans rfl, (ce HB.out hw296_0 :), (ce HB.out hw297_0 :)⟩ (fun hHeld => ?_)
     clear hK K
     refine norm_ (a' := ?_) ?_ ?_
     rotate_left
     ·
      show Act.put _ (some 68) _ = _
      simp only [pk, i64_w, i32_w]
      rfl
     refine pure_ (i := 13) (N := some 69) (v := ?_) (a' := ?_) #[I, I, I, I, I, I, I, I, I, I, I, I, I, I] rfl rfl (any_of HT_.out (by kernel_rfl)) (fun _ _ _ h => h) (Or.inl ⟨by rfl, ?_⟩) ?_ ?_
     rotate_left
     ·
      intro w'
      go_simp
      with_reducible rfl
     rotate_left
     ·
      simp only [pk, i64_w, i32_w]
      rfl
     refine done_ (done_of HT_.out (by kernel_rfl)) ?_
     try go_wp2
     go_roundg k2
     case measure => have := HJ8.out; have := HK2.out; omega
     case rel => exact ⟨(wrap64 (x53_2 + 1)), (by first | rfl | (simp; done) | (simp [*]; done)), H', ⟨by have := HJ8.out; have := HK2.out; omega⟩, ⟨bx BK290.out⟩, ⟨bx BK291.out⟩, ⟨bx BK294.out⟩, ⟨bx BK295.out⟩, ⟨be w⟩⟩
end Go.Proofs.YtmdpggibcjkfoaaDoor.PFnExactSameTree
