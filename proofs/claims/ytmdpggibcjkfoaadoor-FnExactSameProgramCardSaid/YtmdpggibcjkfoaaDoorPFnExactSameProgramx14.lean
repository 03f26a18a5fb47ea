/- Written by a program of this session (a turned copy of the kit's print): a contract for each Go function. No condition beside those in each statement. -/
import Derived.Test.YtmdpggibcjkfoaaDoorPFnExactSameProgramx0
namespace Go.Proofs.YtmdpggibcjkfoaaDoor.PFnExactSameProgram
open Go.RowKit Go.Proofs.YtmdpggibcjkfoaaDoor.Given Go.Proofs.YtmdpggibcjkfoaaDoorW.PrintWords Go.Proofs.YtmdpggibcjkfoaaDoorW.PrintLast Go.Proofs.YtmdpggibcjkfoaaDoorW.PrintMore
attribute [local go_sem] max2_int min2_int max_two min_two max_three min_three max_four min_four   -- for this text's walks alone
set_option linter.unusedVariables false
set_option linter.unusedSimpArgs false

/-! ### impl_sameTree: function 70 -/
mutual
def impl_sameTree.j0 : Nat → Bool → List (S64) → List (S93) → List (S64) → List (S93) → Int → Int → ByteArray → List Int → Int → Int → ByteArray → List Int → Option (Bool)
 | 0, _, _, _, _, _, _, _, _, _, _, _, _, _ => none
 | k + 1, x49, x324000, x324001, x325000, x325001, x328000, x328001, x328002, x328003, x329000, x329001, x329002, x329003 => if x49 = true then (some false) else (impl_sameTree.l0 k (x328003.length : Int) 0 x324000 x324001 x325000 x325001 x328000 x328001 x328002 x328003 x329000 x329001 x329002 x329003)
def impl_sameTree.l0 : Nat → Int → Int → List (S64) → List (S93) → List (S64) → List (S93) → Int → Int → ByteArray → List Int → Int → Int → ByteArray → List Int → Option (Bool)
 | 0, _, _, _, _, _, _, _, _, _, _, _, _, _, _ => none
 | k + 1, x52, x53, x324000, x324001, x325000, x325001, x328000, x328001, x328002, x328003, x329000, x329001, x329002, x329003 => if x53 < x52 then (if 0 ≤ x53 then (if x53 < (x328003.length : Int) then (if x53 < (x329003.length : Int) then ((impl_sameTree.f k x324000 x324001 (rd x328003 x53) x325000 x325001 (rd x329003 x53)).bind fun t331 => (if t331 = true then (impl_sameTree.l0 k x52 (wrap64 (x53 + 1)) x324000 x324001 x325000 x325001 x328000 x328001 x328002 x328003 x329000 x329001 x329002 x329003) else (some false))) else (none)) else (none)) else (none)) else (some true)
def impl_sameTree.f : Nat → List (S64) → List (S93) → Int → List (S64) → List (S93) → Int → Option (Bool)
 | 0, _, _, _, _, _, _ => none
 | k + 1, l0_0, l0_1, a1, l2_0, l2_1, a3 => if 0 ≤ a1 then (if a1 < (l0_0.length : Int) then (if 0 ≤ a3 then (if a3 < (l2_0.length : Int) then (if ((rd_T64 l0_0 a1).f0) = ((rd_T64 l2_0 a3).f0) then (if ((rd_T64 l0_0 a1).f1) = ((rd_T64 l2_0 a3).f1) then (if ((rd_T64 l0_0 a1).f2).toList = ((rd_T64 l2_0 a3).f2).toList then (impl_sameTree.j0 k ((((rd_T64 l0_0 a1).f3).length : Int) != (((rd_T64 l2_0 a3).f3).length : Int)) l0_0 l0_1 l2_0 l2_1 ((rd_T64 l0_0 a1).f0) ((rd_T64 l0_0 a1).f1) ((rd_T64 l0_0 a1).f2) ((rd_T64 l0_0 a1).f3) ((rd_T64 l2_0 a3).f0) ((rd_T64 l2_0 a3).f1) ((rd_T64 l2_0 a3).f2) ((rd_T64 l2_0 a3).f3)) else (impl_sameTree.j0 k true l0_0 l0_1 l2_0 l2_1 ((rd_T64 l0_0 a1).f0) ((rd_T64 l0_0 a1).f1) ((rd_T64 l0_0 a1).f2) ((rd_T64 l0_0 a1).f3) ((rd_T64 l2_0 a3).f0) ((rd_T64 l2_0 a3).f1) ((rd_T64 l2_0 a3).f2) ((rd_T64 l2_0 a3).f3))) else (impl_sameTree.j0 k true l0_0 l0_1 l2_0 l2_1 ((rd_T64 l0_0 a1).f0) ((rd_T64 l0_0 a1).f1) ((rd_T64 l0_0 a1).f2) ((rd_T64 l0_0 a1).f3) ((rd_T64 l2_0 a3).f0) ((rd_T64 l2_0 a3).f1) ((rd_T64 l2_0 a3).f2) ((rd_T64 l2_0 a3).f3))) else (impl_sameTree.j0 k true l0_0 l0_1 l2_0 l2_1 ((rd_T64 l0_0 a1).f0) ((rd_T64 l0_0 a1).f1) ((rd_T64 l0_0 a1).f2) ((rd_T64 l0_0 a1).f3) ((rd_T64 l2_0 a3).f0) ((rd_T64 l2_0 a3).f1) ((rd_T64 l2_0 a3).f2) ((rd_T64 l2_0 a3).f3))) else (none)) else (none)) else (none)) else (none)
end
theorem impl_sameTree.mono_l : ∀ k, (∀ y0 y1 y2 y3 y4 y5, LeO (impl_sameTree.f k y0 y1 y2 y3 y4 y5) (impl_sameTree.f (k + 1) y0 y1 y2 y3 y4 y5)) ∧ (∀ y0 y1 y2 y3 y4 y5 y6 y7 y8 y9 y10 y11 y12, LeO (impl_sameTree.j0 k y0 y1 y2 y3 y4 y5 y6 y7 y8 y9 y10 y11 y12) (impl_sameTree.j0 (k + 1) y0 y1 y2 y3 y4 y5 y6 y7 y8 y9 y10 y11 y12)) ∧ (∀ y0 y1 y2 y3 y4 y5 y6 y7 y8 y9 y10 y11 y12 y13, LeO (impl_sameTree.l0 k y0 y1 y2 y3 y4 y5 y6 y7 y8 y9 y10 y11 y12 y13) (impl_sameTree.l0 (k + 1) y0 y1 y2 y3 y4 y5 y6 y7 y8 y9 y10 y11 y12 y13))
 | 0 => ⟨fun _ _ _ _ _ _ r h => by simp [impl_sameTree.f] at h, fun _ _ _ _ _ _ _ _ _ _ _ _ _ r h => by simp [impl_sameTree.j0] at h, fun _ _ _ _ _ _ _ _ _ _ _ _ _ _ r h => by simp [impl_sameTree.l0] at h⟩
 | k + 1 => by
  obtain ⟨ih0, ih1, ih2⟩ := impl_sameTree.mono_l k
  refine ⟨?_, ?_, ?_⟩
  ·
   intro y0 y1 y2 y3 y4 y5
   unfold impl_sameTree.f
   with_reducible repeat' first | exact ih0 _ _ _ _ _ _ | exact ih1 _ _ _ _ _ _ _ _ _ _ _ _ _ | exact ih2 _ _ _ _ _ _ _ _ _ _ _ _ _ _ | exact LeO.refl _ | exact LeO.none _ | refine LeO.ite ?_ ?_ | refine LeO.bind ?_ (fun _ => ?_)
  ·
   intro y0 y1 y2 y3 y4 y5 y6 y7 y8 y9 y10 y11 y12
   unfold impl_sameTree.j0
   with_reducible repeat' first | exact ih0 _ _ _ _ _ _ | exact ih1 _ _ _ _ _ _ _ _ _ _ _ _ _ | exact ih2 _ _ _ _ _ _ _ _ _ _ _ _ _ _ | exact LeO.refl _ | exact LeO.none _ | refine LeO.ite ?_ ?_ | refine LeO.bind ?_ (fun _ => ?_)
  ·
   intro y0 y1 y2 y3 y4 y5 y6 y7 y8 y9 y10 y11 y12 y13
   unfold impl_sameTree.l0
   with_reducible repeat' first | exact ih0 _ _ _ _ _ _ | exact ih1 _ _ _ _ _ _ _ _ _ _ _ _ _ | exact ih2 _ _ _ _ _ _ _ _ _ _ _ _ _ _ | exact LeO.refl _ | exact LeO.none _ | refine LeO.ite ?_ ?_ | refine LeO.bind ?_ (fun _ => ?_)
theorem impl_sameTree.mono : ∀ a0 a1 a2 a3 a4 a5 k, LeO (impl_sameTree.f k a0 a1 a2 a3 a4 a5) (impl_sameTree.f (k + 1) a0 a1 a2 a3 a4 a5) := by
 intro a0 a1 a2 a3 a4 a5 k
 obtain ⟨ih0, ih1, ih2⟩ := impl_sameTree.mono_l k
 exact ih0 a0 a1 a2 a3 a4 a5
def impl_sameTree.T1 : Bool × List (List Nat × List Nat) := (true, [([], []), ([0], [0]), ([], []), ([1, 2], [1, 2]), ([3], [3]), ([], []), ([5], [5]), ([], []), ([6, 7], [6, 7]), ([8], [8]), ([], []), ([], []), ([10, 4, 0, 1, 2, 3, 4, 10, 11], [4, 10]), ([11, 9, 12, 0, 1, 2, 3, 4, 5, 6, 7, 8, 9, 10, 11, 12], [9, 11])])
def impl_sameTree.B1 : List Nat := [0, 1, 0, 7, 15, 0, 32, 0, 224, 480, 0, 0, 3103, 8191]
theorem impl_sameTree.tab1 : rtab .any (opsOf Tryd.f70 1) = impl_sameTree.T1 := by kernel_rfl
theorem impl_sameTree.bits1 : waitsOk impl_sameTree.T1.2 impl_sameTree.B1 = true := by kernel_rfl
def impl_sameTree.T7 : Bool × List (List Nat × List Nat) := (true, [([], []), ([], []), ([1], [1]), ([], []), ([2, 3], [2, 3]), ([4], [4]), ([], []), ([], []), ([7], [7]), ([], []), ([8, 9], [8, 9]), ([10], [10]), ([0, 5, 6, 11], [0, 5, 6, 11]), ([12], [12])])
def impl_sameTree.B7 : List Nat := [0, 0, 2, 0, 14, 30, 0, 0, 128, 0, 896, 1920, 4095, 8191]
theorem impl_sameTree.tab7 : rtab .any (opsOf Tryd.f70 7) = impl_sameTree.T7 := by kernel_rfl
theorem impl_sameTree.bits7 : waitsOk impl_sameTree.T7.2 impl_sameTree.B7 = true := by kernel_rfl
set_option maxHeartbeats 8000000 in
set_option maxRecDepth 100000 in
theorem impl_sameTree.calls (k : Nat) : ∀ (A0_0 : Option Addr) (c0_0 : Nat) (l0_0 : List (S64)) (A0_1 : Option Addr) (c0_1 : Nat) (l0_1 : List (S93)) (a1 : Int) (A2_0 : Option Addr) (c2_0 : Nat) (l2_0 : List (S64)) (A2_1 : Option Addr) (c2_1 : Nat) (l2_1 : List (S93)) (a3 : Int) (r : Bool) (w : World) (hr0_0 : Kd.C k64 w A0_0 l0_0.length l0_0) (hc0_0 : l0_0.length ≤ c0_0) (hr0_1 : Kd.C k93 w A0_1 l0_1.length l0_1) (hc0_1 : l0_1.length ≤ c0_1) (hr2_0 : Kd.C k64 w A2_0 l2_0.length l2_0) (hc2_0 : l2_0.length ≤ c2_0) (hr2_1 : Kd.C k93 w A2_1 l2_1.length l2_1) (hc2_1 : l2_1.length ≤ c2_1) (h : impl_sameTree.f k l0_0 l0_1 a1 l2_0 l2_1 a3 = some r),
  Calls Tryd.prog 70 #[.agg #[.slice A0_0 l0_0.length c0_0, .slice A0_1 l0_1.length c0_1], .int .i64 a1, .agg #[.slice A2_0 l2_0.length c2_0, .slice A2_1 l2_1.length c2_1], .int .i64 a3] w fun e w' => e = .returned (.bool r) ∧ Below w.heap.size w w' := by
 induction k using Nat.strongRecOn with
 | _ k ih =>
 intro A0_0 c0_0 l0_0 A0_1 c0_1 l0_1 a1 A2_0 c2_0 l2_0 A2_1 c2_1 l2_1 a3 r w hr0_0 hc0_0 hr0_1 hc0_1 hr2_0 hc2_0 hr2_1 hc2_1 h
 cases k with
 | zero => exact absurd h (by simp [impl_sameTree.f])
 | succ k =>
 simp only [impl_sameTree.f] at h
 have hu52 := Tryd.underlying52
 have hu64 := Tryd.underlying64
 have HR0_0 := As.mk hr0_0
 have HC0_0 := As.mk hc0_0
 clear hr0_0 hc0_0
 have HR0_1 := As.mk hr0_1
 have HC0_1 := As.mk hc0_1
 clear hr0_1 hc0_1
 have HR2_0 := As.mk hr2_0
 have HC2_0 := As.mk hc2_0
 clear hr2_0 hc2_0
 have HR2_1 := As.mk hr2_1
 have HC2_1 := As.mk hc2_1
 clear hr2_1 hc2_1
 have HB := As.mk (Below.refl w.heap.size w)
 have H : (if 0 ≤ a1 then (if a1 < (l0_0.length : Int) then (if 0 ≤ a3 then (if a3 < (l2_0.length : Int) then (if ((rd_T64 l0_0 a1).f0) = ((rd_T64 l2_0 a3).f0) then (if ((rd_T64 l0_0 a1).f1) = ((rd_T64 l2_0 a3).f1) then (if ((rd_T64 l0_0 a1).f2).toList = ((rd_T64 l2_0 a3).f2).toList then (impl_sameTree.j0 k ((((rd_T64 l0_0 a1).f3).length : Int) != (((rd_T64 l2_0 a3).f3).length : Int)) l0_0 l0_1 l2_0 l2_1 ((rd_T64 l0_0 a1).f0) ((rd_T64 l0_0 a1).f1) ((rd_T64 l0_0 a1).f2) ((rd_T64 l0_0 a1).f3) ((rd_T64 l2_0 a3).f0) ((rd_T64 l2_0 a3).f1) ((rd_T64 l2_0 a3).f2) ((rd_T64 l2_0 a3).f3)) else (impl_sameTree.j0 k true l0_0 l0_1 l2_0 l2_1 ((rd_T64 l0_0 a1).f0) ((rd_T64 l0_0 a1).f1) ((rd_T64 l0_0 a1).f2) ((rd_T64 l0_0 a1).f3) ((rd_T64 l2_0 a3).f0) ((rd_T64 l2_0 a3).f1) ((rd_T64 l2_0 a3).f2) ((rd_T64 l2_0 a3).f3))) else (impl_sameTree.j0 k true l0_0 l0_1 l2_0 l2_1 ((rd_T64 l0_0 a1).f0) ((rd_T64 l0_0 a1).f1) ((rd_T64 l0_0 a1).f2) ((rd_T64 l0_0 a1).f3) ((rd_T64 l2_0 a3).f0) ((rd_T64 l2_0 a3).f1) ((rd_T64 l2_0 a3).f2) ((rd_T64 l2_0 a3).f3))) else (impl_sameTree.j0 k true l0_0 l0_1 l2_0 l2_1 ((rd_T64 l0_0 a1).f0) ((rd_T64 l0_0 a1).f1) ((rd_T64 l0_0 a1).f2) ((rd_T64 l0_0 a1).f3) ((rd_T64 l2_0 a3).f0) ((rd_T64 l2_0 a3).f1) ((rd_T64 l2_0 a3).f2) ((rd_T64 l2_0 a3).f3))) else (none)) else (none)) else (none)) else (none)) = some r := h
 clear h
 by_cases c5 : 0 ≤ a1
 rotate_left
 ·
  rw [if_neg c5] at H
  exact absurd H (by simp)

 rw [if_pos c5] at H
 have c5b0 : decide (0 ≤ a1) = true := decide_eq_true c5
 clear c5
 by_cases c6 : a1 < (l0_0.length : Int)
 rotate_left
 ·
  rw [if_neg c6] at H
  exact absurd H (by simp)
 rw [if_pos c6] at H
 have c6b0 : decide (a1 < (l0_0.length : Int)) = true := decide_eq_true c6
 clear c6
 by_cases c7 : 0 ≤ a3
 rotate_left
 ·
  rw [if_neg c7] at H
  exact absurd H (by simp)
 rw [if_pos c7] at H
 have c7b0 : decide (0 ≤ a3) = true := decide_eq_true c7
 clear c7
 by_cases c8 : a3 < (l2_0.length : Int)
 rotate_left
 ·
  rw [if_neg c8] at H
  exact absurd H (by simp)
 rw [if_pos c8] at H
 have c8b0 : decide (a3 < (l2_0.length : Int)) = true := decide_eq_true c8
 clear c8
 have HC9 := As.mk H
 clear H
 go_enter Tryd.func70, Tryd.ntmps70
 try go_wp2_with (first | ((with_reducible refine gate_dst (N := 4) rfl ?_); (try (refine gate_guard (by rfl) ?_; dsimp only)); refine box_event ?hg (N := 4) ?hd (cs := #[.slice A0_0 l0_0.length c0_0, .slice A0_1 l0_1.length c0_1]) (t := 52) ?hr ?_; (case hd => rfl); (case hg => rfl); (case hr => first | (go_simp; done) | (go_simp; rfl)); intro gb323 hg w10 hbox hb; have BK323 := As.mk (hbox); have GW323 := As.mk (gs w hg); have GE323 := As.mk (gs w hg); replace HB := As.mk (below_step (be w) hb); clear hb hbox hg) | ((with_reducible refine gate_dst (N := 6) rfl ?_); (try (refine gate_guard (by rfl) ?_; dsimp only)); refine box_event ?hg (N := 6) ?hd (cs := #[.slice A2_0 l2_0.length c2_0, .slice A2_1 l2_1.length c2_1]) (t := 52) ?hr ?_; (case hd => rfl); (case hg => rfl); (case hr => first | (go_simp; done) | (go_simp; rfl)); intro gb324 hg w11 hbox hb; have BK324 := As.mk (hbox); have GW324 := As.mk (gs w hg); have GE324 := As.mk (gs w hg); replace HB := As.mk (below_step (be w) hb); have NB323_324 := As.mk (nl hg (bx BK323.out)); have NB324_323 := As.mk (ng hg (bx BK323.out)); replace BK323 := As.mk (blk_below (bx BK323.out) hb); clear hb hbox hg))
 replace BK323 := As.mk (blk_drew BK323.out)
 replace BK324 := As.mk (blk_drew BK324.out)
 replace HB := As.mk (below_drew1 HB.out)
 have p325 : 0 ≤ (a1 : Int) := of_decide_eq_true (by first | (with_reducible assumption) | assumption)
 have q325 : a1 < (l0_0.length : Int) := of_decide_eq_true (by first | (with_reducible assumption) | assumption)
 obtain ⟨ad325, A325_3, c325_3, e325, hx325_0, hx325_1, hx325_2, hx325_3, hl325_3, hi325_3⟩ := at_T64 HR0_0.out a1 p325 q325
 have hw325_3 := hx325_3
 have hw325_2 := hx325_2
 have hw325_1 := hx325_1
 have hw325_0 := hx325_0
 cases e325
 replace hx325_0 := ce HB.out hx325_0
 replace hx325_1 := ce HB.out hx325_1
 replace hx325_2 := ce HB.out hx325_2
 replace hx325_3 := ce HB.out hx325_3
 have HR325_3 := As.mk hi325_3
 have HC325_3 := As.mk hl325_3
 clear hi325_3 hl325_3
 replace p325 := eq_true p325
 replace q325 := eq_true q325
 have p326 : 0 ≤ (a3 : Int) := of_decide_eq_true (by first | (with_reducible assumption) | assumption)
 have q326 : a3 < (l2_0.length : Int) := of_decide_eq_true (by first | (with_reducible assumption) | assumption)
 obtain ⟨ad326, A326_3, c326_3, e326, hx326_0, hx326_1, hx326_2, hx326_3, hl326_3, hi326_3⟩ := at_T64 HR2_0.out a3 p326 q326
 have hw326_3 := hx326_3
 have hw326_2 := hx326_2
 have hw326_1 := hx326_1
 have hw326_0 := hx326_0
 cases e326
 replace hx326_0 := ce HB.out hx326_0
 replace hx326_1 := ce HB.out hx326_1
 replace hx326_2 := ce HB.out hx326_2
 replace hx326_3 := ce HB.out hx326_3
 have HR326_3 := As.mk hi326_3
 have HC326_3 := As.mk hl326_3
 clear hi326_3 hl326_3
 replace p326 := eq_true p326
 replace q326 := eq_true q326
 refine start_ (n := 14) (S := fun w' => w'.cell? ⟨gb323, 0, none⟩ = some (.slice (some ad325) l0_0.length c0_0) ∧ w'.cell? ⟨gb323, 1, none⟩ = some (.slice A0_1 l0_1.length c0_1) ∧ w'.cell? ⟨gb324, 0, none⟩ = some (.slice (some ad326) l2_0.length c2_0) ∧ w'.cell? ⟨gb324, 1, none⟩ = some (.slice A2_1 l2_1.length c2_1) ∧ w'.cell? (ad325.add ((a1).toNat * 4)) = some (.int .i64 ((rd_T64 l0_0 a1).f0)) ∧ w'.cell? ⟨(ad325.add ((a1).toNat * 4)).block, (ad325.add ((a1).toNat * 4)).off + 1, none⟩ = some (.int .i64 ((rd_T64 l0_0 a1).f1)) ∧ w'.cell? ⟨(ad325.add ((a1).toNat * 4)).block, (ad325.add ((a1).toNat * 4)).off + 2, none⟩ = some (.string ((rd_T64 l0_0 a1).f2)) ∧ w'.cell? ⟨(ad325.add ((a1).toNat * 4)).block, (ad325.add ((a1).toNat * 4)).off + 3, none⟩ = some (.slice A325_3 ((rd_T64 l0_0 a1).f3).length c325_3) ∧ w'.cell? (ad326.add ((a3).toNat * 4)) = some (.int .i64 ((rd_T64 l2_0 a3).f0)) ∧ w'.cell? ⟨(ad326.add ((a3).toNat * 4)).block, (ad326.add ((a3).toNat * 4)).off + 1, none⟩ = some (.int .i64 ((rd_T64 l2_0 a3).f1)) ∧ w'.cell? ⟨(ad326.add ((a3).toNat * 4)).block, (ad326.add ((a3).toNat * 4)).off + 2, none⟩ = some (.string ((rd_T64 l2_0 a3).f2)) ∧ w'.cell? ⟨(ad326.add ((a3).toNat * 4)).block, (ad326.add ((a3).toNat * 4)).off + 3, none⟩ = some (.slice A326_3 ((rd_T64 l2_0 a3).f3).length c326_3)) (ds := []) #[O, O, O, O, O, O, O, O, O, O, O, O, O, O] (by kernel_rfl) rfl rfl ⟨(blk_cell BK323.out 0).trans rfl, (blk_cell BK323.out 1).trans rfl, (blk_cell BK324.out 0).trans rfl, (blk_cell BK324.out 1).trans rfl, (ce HB.out hw325_0 :), (ce HB.out hw325_1 :), (ce HB.out hw325_2 :), (ce HB.out hw325_3 :), (ce HB.out hw326_0 :), (ce HB.out hw326_1 :), (ce HB.out hw326_2 :), (ce HB.out hw326_3 :)⟩ (fun hHeld => ?_); refine with_tabW impl_sameTree.tab1 impl_sameTree.bits1 (fun HT_ HW_ => ?_)
 generalize w11.drew = w12 at BK323 BK324 HB HR325_3 HR326_3 hx325_0 hx325_1 hx325_2 hx325_3 hx326_0 hx326_1 hx326_2 hx326_3 hHeld ⊢
 refine pure_ (i := 0) (N := some 12) (v := ?_) (a' := ?_) #[I, O, O, O, O, O, O, O, O, O, O, O, O, O] rfl rfl (any_of HT_.out (by kernel_rfl)) (fun _ _ _ h => h) (Or.inl ⟨by rfl, ?_⟩) ?_ ?_
 rotate_left
 ·
  intro w'
  go_simp
  with_reducible rfl
 rotate_left
 ·
  simp only [pk, i64_w, i32_w]
  rfl
 refine pure_ (i := 2) (N := some 14) (v := ?_) (a' := ?_) #[I, O, I, O, O, O, O, O, O, O, O, O, O, O] rfl rfl (any_of HT_.out (by kernel_rfl)) (fun _ _ _ h => h) (Or.inl ⟨by rfl, ?_⟩) ?_ ?_
 rotate_left
 ·
  intro w'
  go_simp
  with_reducible rfl
 rotate_left
 ·
  simp only [pk, i64_w, i32_w]
  rfl
 refine pure_ (i := 5) (N := some 17) (v := ?_) (a' := ?_) #[I, O, I, O, O, I, O, O, O, O, O, O, O, O] rfl rfl (any_of HT_.out (by kernel_rfl)) (fun _ _ _ h => h) (Or.inl ⟨by rfl, ?_⟩) ?_ ?_
 rotate_left
 ·
  intro w'
  go_simp
  with_reducible rfl
 rotate_left
 ·
  simp only [pk, i64_w, i32_w]
  rfl
 refine pure_ (i := 7) (N := some 19) (v := ?_) (a' := ?_) #[I, O, I, O, O, I, O, I, O, O, O, O, O, O] rfl rfl (any_of HT_.out (by kernel_rfl)) (fun _ _ _ h => h) (Or.inl ⟨by rfl, ?_⟩) ?_ ?_
 rotate_left
 ·
  intro w'
  go_simp
  with_reducible rfl
 rotate_left
 ·
  simp only [pk, i64_w, i32_w]
  rfl
 refine take_ (i := 1) (N := some 13) (v := ?_) (a' := ?_) #[I, I, I, O, O, I, O, I, O, O, O, O, O, O] rfl rfl (take_ofW HT_.out HW_.out (by kernel_rfl)) (fun _ _ _ h => h) (Or.inl ⟨by rfl, ?_⟩) hHeld ?_ ?_
 rotate_left
 ·
  rintro w' ⟨s0, s1, s2, s3, s4, s5, s6, s7, s8, s9, s10, s11⟩
  go_simp
  with_reducible rfl
 rotate_left
 ·
  simp only [pk, i64_w, i32_w]
  rfl
 refine pure_ (i := 3) (N := some 15) (v := ?_) (a' := ?_) #[I, I, I, I, O, I, O, I, O, O, O, O, O, O] rfl rfl (any_of HT_.out (by kernel_rfl)) (fun _ _ _ h => h) (Or.inl ⟨by rfl, ?_⟩) ?_ ?_
 rotate_left
 ·
  intro w'
  go_simp
  with_reducible rfl
 rotate_left
 ·
  simp only [pk, i64_w, i32_w]
  rfl
 refine take_ (i := 4) (N := some 16) (v := ?_) (a' := ?_) #[I, I, I, I, I, I, O, I, O, O, O, O, O, O] rfl rfl (take_ofW HT_.out HW_.out (by kernel_rfl)) (fun _ _ _ h => h) (Or.inl ⟨by rfl, ?_⟩) hHeld ?_ ?_
 rotate_left
 ·
  rintro w' ⟨s0, s1, s2, s3, s4, s5, s6, s7, s8, s9, s10, s11⟩
  go_simp
  with_reducible rfl
 rotate_left
 ·
  simp only [pk, i64_w, i32_w]
  rfl
 refine take_ (i := 6) (N := some 18) (v := ?_) (a' := ?_) #[I, I, I, I, I, I, I, I, O, O, O, O, O, O] rfl rfl (take_ofW HT_.out HW_.out (by kernel_rfl)) (fun _ _ _ h => h) (Or.inl ⟨by rfl, ?_⟩) hHeld ?_ ?_
 rotate_left
 ·
  rintro w' ⟨s0, s1, s2, s3, s4, s5, s6, s7, s8, s9, s10, s11⟩
  go_simp
  with_reducible rfl
 rotate_left
 ·
  simp only [pk, i64_w, i32_w]
  rfl
 refine pure_ (i := 8) (N := some 20) (v := ?_) (a' := ?_) #[I, I, I, I, I, I, I, I, I, O, O, O, O, O] rfl rfl (any_of HT_.out (by kernel_rfl)) (fun _ _ _ h => h) (Or.inl ⟨by rfl, ?_⟩) ?_ ?_
 rotate_left
 ·
  intro w'
  go_simp
  with_reducible rfl
 rotate_left
 ·
  simp only [pk, i64_w, i32_w]
  rfl
 refine take_ (i := 9) (N := some 21) (v := ?_) (a' := ?_) #[I, I, I, I, I, I, I, I, I, I, O, O, O, O] rfl rfl (take_ofW HT_.out HW_.out (by kernel_rfl)) (fun _ _ _ h => h) (Or.inl ⟨by rfl, ?_⟩) hHeld ?_ ?_
 rotate_left
 ·
  rintro w' ⟨s0, s1, s2, s3, s4, s5, s6, s7, s8, s9, s10, s11⟩
  go_simp
  with_reducible rfl
 rotate_left
 ·
  simp only [pk, i64_w, i32_w]
  rfl
 refine join_ (σ := Nat × Nat) 2 #[true, true, true, true, true, true, true, true, true, true, true, true, false, false] (fun s_ => [(9, .pointer (some ⟨s_.1, 0, none⟩)), (10, .pointer (some ⟨s_.2, 0, none⟩))]) (fun s_ w' => (w'.cell? ⟨gb323, 0, none⟩ = some (.slice (some ad325) l0_0.length c0_0) ∧ w'.cell? ⟨gb323, 1, none⟩ = some (.slice A0_1 l0_1.length c0_1) ∧ w'.cell? ⟨gb324, 0, none⟩ = some (.slice (some ad326) l2_0.length c2_0) ∧ w'.cell? ⟨gb324, 1, none⟩ = some (.slice A2_1 l2_1.length c2_1) ∧ w'.cell? (ad325.add ((a1).toNat * 4)) = some (.int .i64 ((rd_T64 l0_0 a1).f0)) ∧ w'.cell? ⟨(ad325.add ((a1).toNat * 4)).block, (ad325.add ((a1).toNat * 4)).off + 1, none⟩ = some (.int .i64 ((rd_T64 l0_0 a1).f1)) ∧ w'.cell? ⟨(ad325.add ((a1).toNat * 4)).block, (ad325.add ((a1).toNat * 4)).off + 2, none⟩ = some (.string ((rd_T64 l0_0 a1).f2)) ∧ w'.cell? ⟨(ad325.add ((a1).toNat * 4)).block, (ad325.add ((a1).toNat * 4)).off + 3, none⟩ = some (.slice A325_3 ((rd_T64 l0_0 a1).f3).length c325_3) ∧ w'.cell? (ad326.add ((a3).toNat * 4)) = some (.int .i64 ((rd_T64 l2_0 a3).f0)) ∧ w'.cell? ⟨(ad326.add ((a3).toNat * 4)).block, (ad326.add ((a3).toNat * 4)).off + 1, none⟩ = some (.int .i64 ((rd_T64 l2_0 a3).f1)) ∧ w'.cell? ⟨(ad326.add ((a3).toNat * 4)).block, (ad326.add ((a3).toNat * 4)).off + 2, none⟩ = some (.string ((rd_T64 l2_0 a3).f2)) ∧ w'.cell? ⟨(ad326.add ((a3).toNat * 4)).block, (ad326.add ((a3).toNat * 4)).off + 3, none⟩ = some (.slice A326_3 ((rd_T64 l2_0 a3).f3).length c326_3)) ∧ (w'.heap[gb323]? = some (.cells #[.slice (some ad325) l0_0.length c0_0, .slice A0_1 l0_1.length c0_1] 52 (0, 0))) ∧ (w'.heap[gb324]? = some (.cells #[.slice (some ad326) l2_0.length c2_0, .slice A2_1 l2_1.length c2_1] 52 (0, 0))) ∧ (w'.heap[s_.1]? = some (.cells #[.int .i64 0, .int .i64 0, .string (⟨#[]⟩ : ByteArray), .slice none 0 0] 64 (0, 0))) ∧ (w'.heap[s_.2]? = some (.cells #[.int .i64 0, .int .i64 0, .string (⟨#[]⟩ : ByteArray), .slice none 0 0] 64 (0, 0))) ∧ (w.heap.size ≤ s_.1) ∧ (w.heap.size ≤ s_.1) ∧ (gb323 ≠ s_.1) ∧ (s_.1 ≠ gb323) ∧ (gb324 ≠ s_.1) ∧ (s_.1 ≠ gb324) ∧ (s_.2 ≠ s_.1) ∧ (s_.1 ≠ s_.2) ∧ (w.heap.size ≤ s_.2) ∧ (w.heap.size ≤ s_.2) ∧ (gb323 ≠ s_.2) ∧ (s_.2 ≠ gb323) ∧ (gb324 ≠ s_.2) ∧ (s_.2 ≠ gb324) ∧ (Below w.heap.size w w')) ?_ ?_
 rotate_left
 ·
  intro hCont
  refine two_ (i := 10) (j := 11) (Ni := some 9) (Nj := some 10) #[true, true, true, true, true, true, true, true, true, true, true, false, false, false] #[true, true, true, true, true, true, true, true, true, true, false, true, false, false] rfl rfl rfl rfl (two_of HT_.out (by kernel_rfl)) (by decide) (by decide) (fun K hK => ?_) (fun K hK => ?_)
  ·
   skip
   refine box_step ?hg (N := 9) ?hd (cs := #[.int .i64 0, .int .i64 0, .string (⟨#[]⟩ : ByteArray), .slice none 0 0]) (t := 64) ?hr ?_; (case hd => rfl); (case hg => rfl); (case hr => first | (go_simp; done) | (go_simp; rfl))
   intro gb327 hg w13 hbox hb
   have BK327 := As.mk (hbox)
   have GW327 := As.mk (gs w hg)
   have GE327 := As.mk (gs w hg)
   replace HB := As.mk (below_step (be w) hb)
   have NB323_327 := As.mk (nl hg (bx BK323.out))
   have NB327_323 := As.mk (ng hg (bx BK323.out))
   replace BK323 := As.mk (blk_below (bx BK323.out) hb)
   have NB324_327 := As.mk (nl hg (bx BK324.out))
   have NB327_324 := As.mk (ng hg (bx BK324.out))
   replace BK324 := As.mk (blk_below (bx BK324.out) hb)
   clear hb hbox hg
   refine hK.out _ _ ⟨(blk_cell BK323.out 0).trans rfl, (blk_cell BK323.out 1).trans rfl, (blk_cell BK324.out 0).trans rfl, (blk_cell BK324.out 1).trans rfl, (ce HB.out hw325_0 :), (ce HB.out hw325_1 :), (ce HB.out hw325_2 :), (ce HB.out hw325_3 :), (ce HB.out hw326_0 :), (ce HB.out hw326_1 :), (ce HB.out hw326_2 :), (ce HB.out hw326_3 :)⟩ (fun hHeld => ?_)
   clear hK K
   refine norm_ (a' := ?_) ?_ ?_
   rotate_left
   ·
    show Act.put _ (some 9) _ = _
    simp only [pk, i64_w, i32_w]
    rfl
   refine one_ (i := 11) (N := some 10) #[I, I, I, I, I, I, I, I, I, I, I, I, O, O] rfl rfl (one_of HT_.out (by kernel_rfl)) (by decide) (fun K hK => ?_)
   refine box_step ?hg (N := 10) ?hd (cs := #[.int .i64 0, .int .i64 0, .string (⟨#[]⟩ : ByteArray), .slice none 0 0]) (t := 64) ?hr ?_; (case hd => rfl); (case hg => rfl); (case hr => first | (go_simp; done) | (go_simp; rfl))
   intro gb328 hg w14 hbox hb
   have BK328 := As.mk (hbox)
   have GW328 := As.mk (gs w hg)
   have GE328 := As.mk (gs w hg)
   replace HB := As.mk (below_step (be w) hb)
   have NB323_328 := As.mk (nl hg (bx BK323.out))
   have NB328_323 := As.mk (ng hg (bx BK323.out))
   replace BK323 := As.mk (blk_below (bx BK323.out) hb)
   have NB324_328 := As.mk (nl hg (bx BK324.out))
   have NB328_324 := As.mk (ng hg (bx BK324.out))
   replace BK324 := As.mk (blk_below (bx BK324.out) hb)
   have NB327_328 := As.mk (nl hg (bx BK327.out))
   have NB328_327 := As.mk (ng hg (bx BK327.out))
   replace BK327 := As.mk (blk_below (bx BK327.out) hb)
   clear hb hbox hg
   refine hK.out _ _ ⟨(blk_cell BK323.out 0).trans rfl, (blk_cell BK323.out 1).trans rfl, (blk_cell BK324.out 0).trans rfl, (blk_cell BK324.out 1).trans rfl, (ce HB.out hw325_0 :), (ce HB.out hw325_1 :), (ce HB.out hw325_2 :), (ce HB.out hw325_3 :), (ce HB.out hw326_0 :), (ce HB.out hw326_1 :), (ce HB.out hw326_2 :), (ce HB.out hw326_3 :)⟩ (fun hHeld => ?_)
   clear hK K
   refine norm_ (a' := ?_) ?_ ?_
   rotate_left
   ·
    show Act.put _ (some 10) _ = _
    simp only [pk, i64_w, i32_w]
    rfl
   exact norm_ (by simp only [putAll, Act.put, List.setIfInBounds_toArray, List.set_cons_zero, List.set_cons_succ]) (hCont (gb327, gb328) _ ⟨hHeld, (bx BK323.out), (bx BK324.out), (bx BK327.out), (bx BK328.out), GW327.out, GE327.out, NB323_327.out, NB327_323.out, NB324_327.out, NB327_324.out, NB328_327.out, NB327_328.out, GW328.out, GE328.out, NB323_328.out, NB328_323.out, NB324_328.out, NB328_324.out, (be w)⟩)
  ·
   skip
   refine box_step ?hg (N := 10) ?hd (cs := #[.int .i64 0, .int .i64 0, .string (⟨#[]⟩ : ByteArray), .slice none 0 0]) (t := 64) ?hr ?_; (case hd => rfl); (case hg => rfl); (case hr => first | (go_simp; done) | (go_simp; rfl))
   intro gb328 hg w13 hbox hb
   have BK328 := As.mk (hbox)
   have GW328 := As.mk (gs w hg)
   have GE328 := As.mk (gs w hg)
   replace HB := As.mk (below_step (be w) hb)
   have NB323_328 := As.mk (nl hg (bx BK323.out))
   have NB328_323 := As.mk (ng hg (bx BK323.out))
   replace BK323 := As.mk (blk_below (bx BK323.out) hb)
   have NB324_328 := As.mk (nl hg (bx BK324.out))
   have NB328_324 := As.mk (ng hg (bx BK324.out))
   replace BK324 := As.mk (blk_below (bx BK324.out) hb)
   clear hb hbox hg
   refine hK.out _ _ ⟨(blk_cell BK323.out 0).trans rfl, (blk_cell BK323.out 1).trans rfl, (blk_cell BK324.out 0).trans rfl, (blk_cell BK324.out 1).trans rfl, (ce HB.out hw325_0 :), (ce HB.out hw325_1 :), (ce HB.out hw325_2 :), (ce HB.out hw325_3 :), (ce HB.out hw326_0 :), (ce HB.out hw326_1 :), (ce HB.out hw326_2 :), (ce HB.out hw326_3 :)⟩ (fun hHeld => ?_)
   clear hK K
   refine norm_ (a' := ?_) ?_ ?_
   rotate_left
   ·
    show Act.put _ (some 10) _ = _
    simp only [pk, i64_w, i32_w]
    rfl
   refine one_ (i := 10) (N := some 9) #[I, I, I, I, I, I, I, I, I, I, I, I, O, O] rfl rfl (one_of HT_.out (by kernel_rfl)) (by decide) (fun K hK => ?_)
   refine box_step ?hg (N := 9) ?hd (cs := #[.int .i64 0, .int .i64 0, .string (⟨#[]⟩ : ByteArray), .slice none 0 0]) (t := 64) ?hr ?_; (case hd => rfl); (case hg => rfl); (case hr => first | (go_simp; done) | (go_simp; rfl))
   intro gb327 hg w14 hbox hb
   have BK327 := As.mk (hbox)
   have GW327 := As.mk (gs w hg)
   have GE327 := As.mk (gs w hg)
   replace HB := As.mk (below_step (be w) hb)
   have NB323_327 := As.mk (nl hg (bx BK323.out))
   have NB327_323 := As.mk (ng hg (bx BK323.out))
   replace BK323 := As.mk (blk_below (bx BK323.out) hb)
   have NB324_327 := As.mk (nl hg (bx BK324.out))
   have NB327_324 := As.mk (ng hg (bx BK324.out))
   replace BK324 := As.mk (blk_below (bx BK324.out) hb)
   have NB328_327 := As.mk (nl hg (bx BK328.out))
   have NB327_328 := As.mk (ng hg (bx BK328.out))
   replace BK328 := As.mk (blk_below (bx BK328.out) hb)
   clear hb hbox hg
   refine hK.out _ _ ⟨(blk_cell BK323.out 0).trans rfl, (blk_cell BK323.out 1).trans rfl, (blk_cell BK324.out 0).trans rfl, (blk_cell BK324.out 1).trans rfl, (ce HB.out hw325_0 :), (ce HB.out hw325_1 :), (ce HB.out hw325_2 :), (ce HB.out hw325_3 :), (ce HB.out hw326_0 :), (ce HB.out hw326_1 :), (ce HB.out hw326_2 :), (ce HB.out hw326_3 :)⟩ (fun hHeld => ?_)
   clear hK K
   refine norm_ (a' := ?_) ?_ ?_
   rotate_left
   ·
    show Act.put _ (some 9) _ = _
    simp only [pk, i64_w, i32_w]
    rfl
   exact norm_ (by simp only [putAll, Act.put, List.setIfInBounds_toArray, List.set_cons_zero, List.set_cons_succ]) (hCont (gb327, gb328) _ ⟨hHeld, (bx BK323.out), (bx BK324.out), (bx BK327.out), (bx BK328.out), GW327.out, GE327.out, NB323_327.out, NB327_323.out, NB324_327.out, NB327_324.out, NB328_327.out, NB327_328.out, GW328.out, GE328.out, NB323_328.out, NB328_323.out, NB324_328.out, NB328_324.out, (be w)⟩)
 rintro ⟨gb327, gb328⟩ w15 ⟨hS_, h0_, h1_, h2_, h3_, h4_, h5_, h6_, h7_, h8_, h9_, h10_, h11_, h12_, h13_, h14_, h15_, h16_, h17_, h18_⟩
 have n0_ : As (w15.heap[gb323]? = some (.cells #[.slice (some ad325) l0_0.length c0_0, .slice A0_1 l0_1.length c0_1] 52 (0, 0))) := ⟨h0_⟩
 have n1_ : As (w15.heap[gb324]? = some (.cells #[.slice (some ad326) l2_0.length c2_0, .slice A2_1 l2_1.length c2_1] 52 (0, 0))) := ⟨h1_⟩
 have n2_ : As (w15.heap[gb327]? = some (.cells #[.int .i64 0, .int .i64 0, .string (⟨#[]⟩ : ByteArray), .slice none 0 0] 64 (0, 0))) := ⟨h2_⟩
 have n3_ : As (w15.heap[gb328]? = some (.cells #[.int .i64 0, .int .i64 0, .string (⟨#[]⟩ : ByteArray), .slice none 0 0] 64 (0, 0))) := ⟨h3_⟩
 have n4_ : As (w.heap.size ≤ gb327) := ⟨h4_⟩
 have n5_ : As (w.heap.size ≤ gb327) := ⟨h5_⟩
 have n6_ : As (gb323 ≠ gb327) := ⟨h6_⟩
 have n7_ : As (gb327 ≠ gb323) := ⟨h7_⟩
 have n8_ : As (gb324 ≠ gb327) := ⟨h8_⟩
 have n9_ : As (gb327 ≠ gb324) := ⟨h9_⟩
 have n10_ : As (gb328 ≠ gb327) := ⟨h10_⟩
 have n11_ : As (gb327 ≠ gb328) := ⟨h11_⟩
 have n12_ : As (w.heap.size ≤ gb328) := ⟨h12_⟩
 have n13_ : As (w.heap.size ≤ gb328) := ⟨h13_⟩
 have n14_ : As (gb323 ≠ gb328) := ⟨h14_⟩
 have n15_ : As (gb328 ≠ gb323) := ⟨h15_⟩
 have n16_ : As (gb324 ≠ gb328) := ⟨h16_⟩
 have n17_ : As (gb328 ≠ gb324) := ⟨h17_⟩
 have n18_ : As (Below w.heap.size w w15) := ⟨h18_⟩
 clear BK323
 clear BK324
 clear HB
 clear h0_ h1_ h2_ h3_ h4_ h5_ h6_ h7_ h8_ h9_ h10_ h11_ h12_ h13_ h14_ h15_ h16_ h17_ h18_
 have BK323 := n0_
 have BK324 := n1_
 have BK327 := n2_
 have BK328 := n3_
 have GW327 := n4_
 have GE327 := n5_
 have NB323_327 := n6_
 have NB327_323 := n7_
 have NB324_327 := n8_
 have NB327_324 := n9_
 have NB328_327 := n10_
 have NB327_328 := n11_
 have GW328 := n12_
 have GE328 := n13_
 have NB323_328 := n14_
 have NB328_323 := n15_
 have NB324_328 := n16_
 have NB328_324 := n17_
 have HB := n18_
 clear n0_ n1_ n2_ n3_ n4_ n5_ n6_ n7_ n8_ n9_ n10_ n11_ n12_ n13_ n14_ n15_ n16_ n17_ n18_
 have hHeld : w15.cell? ⟨gb323, 0, none⟩ = some (.slice (some ad325) l0_0.length c0_0) ∧ w15.cell? ⟨gb323, 1, none⟩ = some (.slice A0_1 l0_1.length c0_1) ∧ w15.cell? ⟨gb324, 0, none⟩ = some (.slice (some ad326) l2_0.length c2_0) ∧ w15.cell? ⟨gb324, 1, none⟩ = some (.slice A2_1 l2_1.length c2_1) ∧ w15.cell? (ad325.add ((a1).toNat * 4)) = some (.int .i64 ((rd_T64 l0_0 a1).f0)) ∧ w15.cell? ⟨(ad325.add ((a1).toNat * 4)).block, (ad325.add ((a1).toNat * 4)).off + 1, none⟩ = some (.int .i64 ((rd_T64 l0_0 a1).f1)) ∧ w15.cell? ⟨(ad325.add ((a1).toNat * 4)).block, (ad325.add ((a1).toNat * 4)).off + 2, none⟩ = some (.string ((rd_T64 l0_0 a1).f2)) ∧ w15.cell? ⟨(ad325.add ((a1).toNat * 4)).block, (ad325.add ((a1).toNat * 4)).off + 3, none⟩ = some (.slice A325_3 ((rd_T64 l0_0 a1).f3).length c325_3) ∧ w15.cell? (ad326.add ((a3).toNat * 4)) = some (.int .i64 ((rd_T64 l2_0 a3).f0)) ∧ w15.cell? ⟨(ad326.add ((a3).toNat * 4)).block, (ad326.add ((a3).toNat * 4)).off + 1, none⟩ = some (.int .i64 ((rd_T64 l2_0 a3).f1)) ∧ w15.cell? ⟨(ad326.add ((a3).toNat * 4)).block, (ad326.add ((a3).toNat * 4)).off + 2, none⟩ = some (.string ((rd_T64 l2_0 a3).f2)) ∧ w15.cell? ⟨(ad326.add ((a3).toNat * 4)).block, (ad326.add ((a3).toNat * 4)).off + 3, none⟩ = some (.slice A326_3 ((rd_T64 l2_0 a3).f3).length c326_3) := hS_
 refine norm_ (a' := ?_) ?_ ?_
 rotate_left
 ·
  simp only [putAll, Act.put, List.setIfInBounds_toArray, List.set_cons_zero, List.set_cons_succ]
  rfl
 refine one_ (i := 12) (N := none) #[I, I, I, I, I, I, I, I, I, I, I, I, I, O] rfl rfl (one_of HT_.out (by kernel_rfl)) (by decide) (fun K hK => ?_)
 have hs16 : w15.cell? ⟨gb327, 0, none⟩ = some (.int .i64 0) := (blk_cell BK327.out 0).trans rfl
 have hfs16 := blk_frozen BK327.out 0
 have hns16_0 := NB323_327.out
 have hns16_1 := NB324_327.out
 have hns16_3 := NB328_327.out
 have hms16_0 := NB327_323.out
 have hms16_1 := NB327_324.out
 have hms16_3 := NB327_328.out
 have hs17 : w15.cell? ⟨gb327, 1, none⟩ = some (.int .i64 0) := (blk_cell BK327.out 1).trans rfl
 have hfs17 := blk_frozen BK327.out 1
 have hns17_0 := NB323_327.out
 have hns17_1 := NB324_327.out
 have hns17_3 := NB328_327.out
 have hms17_0 := NB327_323.out
 have hms17_1 := NB327_324.out
 have hms17_3 := NB327_328.out
 have hs18 : w15.cell? ⟨gb327, 2, none⟩ = some (.string (⟨#[]⟩ : ByteArray)) := (blk_cell BK327.out 2).trans rfl
 have hfs18 := blk_frozen BK327.out 2
 have hns18_0 := NB323_327.out
 have hns18_1 := NB324_327.out
 have hns18_3 := NB328_327.out
 have hms18_0 := NB327_323.out
 have hms18_1 := NB327_324.out
 have hms18_3 := NB327_328.out
 have hs19 : w15.cell? ⟨gb327, 3, none⟩ = some (.slice none 0 0) := (blk_cell BK327.out 3).trans rfl
 have hfs19 := blk_frozen BK327.out 3
 have hns19_0 := NB323_327.out
 have hns19_1 := NB324_327.out
 have hns19_3 := NB328_327.out
 have hms19_0 := NB327_323.out
 have hms19_1 := NB327_324.out
 have hms19_3 := NB327_328.out
 refine skip_ (w1 := ?_) (by rfl) rfl ?_ ?_
 rotate_left
 ·
  go_simp
  rfl
 refine hK.out _ _ ⟨((cell_far (p := ⟨gb327, _, none⟩) NB323_327.out _).trans (((cell_far (p := ⟨gb327, _, none⟩) NB323_327.out _).trans (((cell_far (p := ⟨gb327, _, none⟩) NB323_327.out _).trans (((cell_far (p := ⟨gb327, _, none⟩) NB323_327.out _).trans (hHeld.1)))))))), ((cell_far (p := ⟨gb327, _, none⟩) NB323_327.out _).trans (((cell_far (p := ⟨gb327, _, none⟩) NB323_327.out _).trans (((cell_far (p := ⟨gb327, _, none⟩) NB323_327.out _).trans (((cell_far (p := ⟨gb327, _, none⟩) NB323_327.out _).trans (hHeld.2.1)))))))), ((cell_far (p := ⟨gb327, _, none⟩) NB324_327.out _).trans (((cell_far (p := ⟨gb327, _, none⟩) NB324_327.out _).trans (((cell_far (p := ⟨gb327, _, none⟩) NB324_327.out _).trans (((cell_far (p := ⟨gb327, _, none⟩) NB324_327.out _).trans (hHeld.2.2.1)))))))), ((cell_far (p := ⟨gb327, _, none⟩) NB324_327.out _).trans (((cell_far (p := ⟨gb327, _, none⟩) NB324_327.out _).trans (((cell_far (p := ⟨gb327, _, none⟩) NB324_327.out _).trans (((cell_far (p := ⟨gb327, _, none⟩) NB324_327.out _).trans (hHeld.2.2.2.1)))))))), ((cell_far (p := ⟨gb327, _, none⟩) (by first | exact (by first | exact nb2 hw325_0 GW327.out | exact nb1 hw325_0 GW327.out) | (rw [add_block]; exact (by first | exact nb2 hw325_0 GW327.out | exact nb1 hw325_0 GW327.out)) | (show (Addr.add _ _).block ≠ _; rw [add_block]; exact (by first | exact nb2 hw325_0 GW327.out | exact nb1 hw325_0 GW327.out)) | (dsimp only; exact (by first | exact nb2 hw325_0 GW327.out | exact nb1 hw325_0 GW327.out))) _).trans (((cell_far (p := ⟨gb327, _, none⟩) (by first | exact (by first | exact nb2 hw325_0 GW327.out | exact nb1 hw325_0 GW327.out) | (rw [add_block]; exact (by first | exact nb2 hw325_0 GW327.out | exact nb1 hw325_0 GW327.out)) | (show (Addr.add _ _).block ≠ _; rw [add_block]; exact (by first | exact nb2 hw325_0 GW327.out | exact nb1 hw325_0 GW327.out)) | (dsimp only; exact (by first | exact nb2 hw325_0 GW327.out | exact nb1 hw325_0 GW327.out))) _).trans (((cell_far (p := ⟨gb327, _, none⟩) (by first | exact (by first | exact nb2 hw325_0 GW327.out | exact nb1 hw325_0 GW327.out) | (rw [add_block]; exact (by first | exact nb2 hw325_0 GW327.out | exact nb1 hw325_0 GW327.out)) | (show (Addr.add _ _).block ≠ _; rw [add_block]; exact (by first | exact nb2 hw325_0 GW327.out | exact nb1 hw325_0 GW327.out)) | (dsimp only; exact (by first | exact nb2 hw325_0 GW327.out | exact nb1 hw325_0 GW327.out))) _).trans (((cell_far (p := ⟨gb327, _, none⟩) (by first | exact (by first | exact nb2 hw325_0 GW327.out | exact nb1 hw325_0 GW327.out) | (rw [add_block]; exact (by first | exact nb2 hw325_0 GW327.out | exact nb1 hw325_0 GW327.out)) | (show (Addr.add _ _).block ≠ _; rw [add_block]; exact (by first | exact nb2 hw325_0 GW327.out | exact nb1 hw325_0 GW327.out)) | (dsimp only; exact (by first | exact nb2 hw325_0 GW327.out | exact nb1 hw325_0 GW327.out))) _).trans (hHeld.2.2.2.2.1)))))))), ((cell_far (p := ⟨gb327, _, none⟩) (by first | exact (by first | exact nb2 hw325_1 GW327.out | exact nb1 hw325_1 GW327.out) | (rw [add_block]; exact (by first | exact nb2 hw325_1 GW327.out | exact nb1 hw325_1 GW327.out)) | (show (Addr.add _ _).block ≠ _; rw [add_block]; exact (by first | exact nb2 hw325_1 GW327.out | exact nb1 hw325_1 GW327.out)) | (dsimp only; exact (by first | exact nb2 hw325_1 GW327.out | exact nb1 hw325_1 GW327.out))) _).trans (((cell_far (p := ⟨gb327, _, none⟩) (by first | exact (by first | exact nb2 hw325_1 GW327.out | exact nb1 hw325_1 GW327.out) | (rw [add_block]; exact (by first | exact nb2 hw325_1 GW327.out | exact nb1 hw325_1 GW327.out)) | (show (Addr.add _ _).block ≠ _; rw [add_block]; exact (by first | exact nb2 hw325_1 GW327.out | exact nb1 hw325_1 GW327.out)) | (dsimp only; exact (by first | exact nb2 hw325_1 GW327.out | exact nb1 hw325_1 GW327.out))) _).trans (((cell_far (p := ⟨gb327, _, none⟩) (by first | exact (by first | exact nb2 hw325_1 GW327.out | exact nb1 hw325_1 GW327.out) | (rw [add_block]; exact (by first | exact nb2 hw325_1 GW327.out | exact nb1 hw325_1 GW327.out)) | (show (Addr.add _ _).block ≠ _; rw [add_block]; exact (by first | exact nb2 hw325_1 GW327.out | exact nb1 hw325_1 GW327.out)) | (dsimp only; exact (by first | exact nb2 hw325_1 GW327.out | exact nb1 hw325_1 GW327.out))) _).trans (((cell_far (p := ⟨gb327, _, none⟩) (by first | exact (by first | exact nb2 hw325_1 GW327.out | exact nb1 hw325_1 GW327.out) | (rw [add_block]; exact (by first | exact nb2 hw325_1 GW327.out | exact nb1 hw325_1 GW327.out)) | (show (Addr.add _ _).block ≠ _; rw [add_block]; exact (by first | exact nb2 hw325_1 GW327.out | exact nb1 hw325_1 GW327.out)) | (dsimp only; exact (by first | exact nb2 hw325_1 GW327.out | exact nb1 hw325_1 GW327.out))) _).trans (hHeld.2.2.2.2.2.1)))))))), ((cell_far (p := ⟨gb327, _, none⟩) (by first | exact (by first | exact nb2 hw325_2 GW327.out | exact nb1 hw325_2 GW327.out) | (rw [add_block]; exact (by first | exact nb2 hw325_2 GW327.out | exact nb1 hw325_2 GW327.out)) | (show (Addr.add _ _).block ≠ _; rw [add_block]; exact (by first | exact nb2 hw325_2 GW327.out | exact nb1 hw325_2 GW327.out)) | (dsimp only; exact (by first | exact nb2 hw325_2 GW327.out | exact nb1 hw325_2 GW327.out))) _).trans (((cell_far (p := ⟨gb327, _, none⟩) (by first | exact (by first | exact nb2 hw325_2 GW327.out | exact nb1 hw325_2 GW327.out) | (rw [add_block]; exact (by first | exact nb2 hw325_2 GW327.out | exact nb1 hw325_2 GW327.out)) | (show (Addr.add _ _).block ≠ _; rw [add_block]; exact (by first | exact nb2 hw325_2 GW327.out | exact nb1 hw325_2 GW327.out)) | (dsimp only; exact (by first | exact nb2 hw325_2 GW327.out | exact nb1 hw325_2 GW327.out))) _).trans (((cell_far (p := ⟨gb327, _, none⟩) (by first | exact (by first | exact nb2 hw325_2 GW327.out | exact nb1 hw325_2 GW327.out) | (rw [add_block]; exact (by first | exact nb2 hw325_2 GW327.out | exact nb1 hw325_2 GW327.out)) | (show (Addr.add _ _).block ≠ _; rw [add_block]; exact (by first | exact nb2 hw325_2 GW327.out | exact nb1 hw325_2 GW327.out)) | (dsimp only; exact (by first | exact nb2 hw325_2 GW327.out | exact nb1 hw325_2 GW327.out))) _).trans (((cell_far (p := ⟨gb327, _, none⟩) (by first | exact (by first | exact nb2 hw325_2 GW327.out | exact nb1 hw325_2 GW327.out) | (rw [add_block]; exact (by first | exact nb2 hw325_2 GW327.out | exact nb1 hw325_2 GW327.out)) | (show (Addr.add _ _).block ≠ _; rw [add_block]; exact (by first | exact nb2 hw325_2 GW327.out | exact nb1 hw325_2 GW327.out)) | (dsimp only; exact (by first | exact nb2 hw325_2 GW327.out | exact nb1 hw325_2 GW327.out))) _).trans (hHeld.2.2.2.2.2.2.1)))))))), ((cell_far (p := ⟨gb327, _, none⟩) (by first | exact (by first | exact nb2 hw325_3 GW327.out | exact nb1 hw325_3 GW327.out) | (rw [add_block]; exact (by first | exact nb2 hw325_3 GW327.out | exact nb1 hw325_3 GW327.out)) | (show (Addr.add _ _).block ≠ _; rw [add_block]; exact (by first | exact nb2 hw325_3 GW327.out | exact nb1 hw325_3 GW327.out)) | (dsimp only; exact (by first | exact nb2 hw325_3 GW327.out | exact nb1 hw325_3 GW327.out))) _).trans (((cell_far (p := ⟨gb327, _, none⟩) (by first | exact (by first | exact nb2 hw325_3 GW327.out | exact nb1 hw325_3 GW327.out) | (rw [add_block]; exact (by first | exact nb2 hw325_3 GW327.out | exact nb1 hw325_3 GW327.out)) | (show (Addr.add _ _).block ≠ _; rw [add_block]; exact (by first | exact nb2 hw325_3 GW327.out | exact nb1 hw325_3 GW327.out)) | (dsimp only; exact (by first | exact nb2 hw325_3 GW327.out | exact nb1 hw325_3 GW327.out))) _).trans (((cell_far (p := ⟨gb327, _, none⟩) (by first | exact (by first | exact nb2 hw325_3 GW327.out | exact nb1 hw325_3 GW327.out) | (rw [add_block]; exact (by first | exact nb2 hw325_3 GW327.out | exact nb1 hw325_3 GW327.out)) | (show (Addr.add _ _).block ≠ _; rw [add_block]; exact (by first | exact nb2 hw325_3 GW327.out | exact nb1 hw325_3 GW327.out)) | (dsimp only; exact (by first | exact nb2 hw325_3 GW327.out | exact nb1 hw325_3 GW327.out))) _).trans (((cell_far (p := ⟨gb327, _, none⟩) (by first | exact (by first | exact nb2 hw325_3 GW327.out | exact nb1 hw325_3 GW327.out) | (rw [add_block]; exact (by first | exact nb2 hw325_3 GW327.out | exact nb1 hw325_3 GW327.out)) | (show (Addr.add _ _).block ≠ _; rw [add_block]; exact (by first | exact nb2 hw325_3 GW327.out | exact nb1 hw325_3 GW327.out)) | (dsimp only; exact (by first | exact nb2 hw325_3 GW327.out | exact nb1 hw325_3 GW327.out))) _).trans (hHeld.2.2.2.2.2.2.2.1)))))))), ((cell_far (p := ⟨gb327, _, none⟩) (by first | exact (by first | exact nb2 hw326_0 GW327.out | exact nb1 hw326_0 GW327.out) | (rw [add_block]; exact (by first | exact nb2 hw326_0 GW327.out | exact nb1 hw326_0 GW327.out)) | (show (Addr.add _ _).block ≠ _; rw [add_block]; exact (by first | exact nb2 hw326_0 GW327.out | exact nb1 hw326_0 GW327.out)) | (dsimp only; exact (by first | exact nb2 hw326_0 GW327.out | exact nb1 hw326_0 GW327.out))) _).trans (((cell_far (p := ⟨gb327, _, none⟩) (by first | exact (by first | exact nb2 hw326_0 GW327.out | exact nb1 hw326_0 GW327.out) | (rw [add_block]; exact (by first | exact nb2 hw326_0 GW327.out | exact nb1 hw326_0 GW327.out)) | (show (Addr.add _ _).block ≠ _; rw [add_block]; exact (by first | exact nb2 hw326_0 GW327.out | exact nb1 hw326_0 GW327.out)) | (dsimp only; exact (by first | exact nb2 hw326_0 GW327.out | exact nb1 hw326_0 GW327.out))) _).trans (((cell_far (p := ⟨gb327, _, none⟩) (by first | exact (by first | exact nb2 hw326_0 GW327.out | exact nb1 hw326_0 GW327.out) | (rw [add_block]; exact (by first | exact nb2 hw326_0 GW327.out | exact nb1 hw326_0 GW327.out)) | (show (Addr.add _ _).block ≠ _; rw [add_block]; exact (by first | exact nb2 hw326_0 GW327.out | exact nb1 hw326_0 GW327.out)) | (dsimp only; exact (by first | exact nb2 hw326_0 GW327.out | exact nb1 hw326_0 GW327.out))) _).trans (((cell_far (p := ⟨gb327, _, none⟩) (by first | exact (by first | exact nb2 hw326_0 GW327.out | exact nb1 hw326_0 GW327.out) | (rw [add_block]; exact (by first | exact nb2 hw326_0 GW327.out | exact nb1 hw326_0 GW327.out)) | (show (Addr.add _ _).block ≠ _; rw [add_block]; exact (by first | exact nb2 hw326_0 GW327.out | exact nb1 hw326_0 GW327.out)) | (dsimp only; exact (by first | exact nb2 hw326_0 GW327.out | exact nb1 hw326_0 GW327.out))) _).trans (hHeld.2.2.2.2.2.2.2.2.1)))))))), ((cell_far (p := ⟨gb327, _, none⟩) (by first | exact (by first | exact nb2 hw326_1 GW327.out | exact nb1 hw326_1 GW327.out) | (rw [add_block]; exact (by first | exact nb2 hw326_1 GW327.out | exact nb1 hw326_1 GW327.out)) | (show (Addr.add _ _).block ≠ _; rw [add_block]; exact (by first | exact nb2 hw326_1 GW327.out | exact nb1 hw326_1 GW327.out)) | (dsimp only; exact (by first | exact nb2 hw326_1 GW327.out | exact nb1 hw326_1 GW327.out))) _).trans (((cell_far (p := ⟨gb327, _, none⟩) (by first | exact (by first | exact nb2 hw326_1 GW327.out | exact nb1 hw326_1 GW327.out) | (rw [add_block]; exact (by first | exact nb2 hw326_1 GW327.out | exact nb1 hw326_1 GW327.out)) | (show (Addr.add _ _).block ≠ _; rw [add_block]; exact (by first | exact nb2 hw326_1 GW327.out | exact nb1 hw326_1 GW327.out)) | (dsimp only; exact (by first | exact nb2 hw326_1 GW327.out | exact nb1 hw326_1 GW327.out))) _).trans (((cell_far (p := ⟨gb327, _, none⟩) (by first | exact (by first | exact nb2 hw326_1 GW327.out | exact nb1 hw326_1 GW327.out) | (rw [add_block]; exact (by first | exact nb2 hw326_1 GW327.out | exact nb1 hw326_1 GW327.out)) | (show (Addr.add _ _).block ≠ _; rw [add_block]; exact (by first | exact nb2 hw326_1 GW327.out | exact nb1 hw326_1 GW327.out)) | (dsimp only; exact (by first | exact nb2 hw326_1 GW327.out | exact nb1 hw326_1 GW327.out))) _).trans (((cell_far (p := ⟨gb327, _, none⟩) (by first | exact (by first | exact nb2 hw326_1 GW327.out | exact nb1 hw326_1 GW327.out) | (rw [add_block]; exact (by first | exact nb2 hw326_1 GW327.out | exact nb1 hw326_1 GW327.out)) | (show (Addr.add _ _).block ≠ _; rw [add_block]; exact (by first | exact nb2 hw326_1 GW327.out | exact nb1 hw326_1 GW327.out)) | (dsimp only; exact (by first | exact nb2 hw326_1 GW327.out | exact nb1 hw326_1 GW327.out))) _).trans (hHeld.2.2.2.2.2.2.2.2.2.1)))))))), ((cell_far (p := ⟨gb327, _, none⟩) (by first | exact (by first | exact nb2 hw326_2 GW327.out | exact nb1 hw326_2 GW327.out) | (rw [add_block]; exact (by first | exact nb2 hw326_2 GW327.out | exact nb1 hw326_2 GW327.out)) | (show (Addr.add _ _).block ≠ _; rw [add_block]; exact (by first | exact nb2 hw326_2 GW327.out | exact nb1 hw326_2 GW327.out)) | (dsimp only; exact (by first | exact nb2 hw326_2 GW327.out | exact nb1 hw326_2 GW327.out))) _).trans (((cell_far (p := ⟨gb327, _, none⟩) (by first | exact (by first | exact nb2 hw326_2 GW327.out | exact nb1 hw326_2 GW327.out) | (rw [add_block]; exact (by first | exact nb2 hw326_2 GW327.out | exact nb1 hw326_2 GW327.out)) | (show (Addr.add _ _).block ≠ _; rw [add_block]; exact (by first | exact nb2 hw326_2 GW327.out | exact nb1 hw326_2 GW327.out)) | (dsimp only; exact (by first | exact nb2 hw326_2 GW327.out | exact nb1 hw326_2 GW327.out))) _).trans (((cell_far (p := ⟨gb327, _, none⟩) (by first | exact (by first | exact nb2 hw326_2 GW327.out | exact nb1 hw326_2 GW327.out) | (rw [add_block]; exact (by first | exact nb2 hw326_2 GW327.out | exact nb1 hw326_2 GW327.out)) | (show (Addr.add _ _).block ≠ _; rw [add_block]; exact (by first | exact nb2 hw326_2 GW327.out | exact nb1 hw326_2 GW327.out)) | (dsimp only; exact (by first | exact nb2 hw326_2 GW327.out | exact nb1 hw326_2 GW327.out))) _).trans (((cell_far (p := ⟨gb327, _, none⟩) (by first | exact (by first | exact nb2 hw326_2 GW327.out | exact nb1 hw326_2 GW327.out) | (rw [add_block]; exact (by first | exact nb2 hw326_2 GW327.out | exact nb1 hw326_2 GW327.out)) | (show (Addr.add _ _).block ≠ _; rw [add_block]; exact (by first | exact nb2 hw326_2 GW327.out | exact nb1 hw326_2 GW327.out)) | (dsimp only; exact (by first | exact nb2 hw326_2 GW327.out | exact nb1 hw326_2 GW327.out))) _).trans (hHeld.2.2.2.2.2.2.2.2.2.2.1)))))))), ((cell_far (p := ⟨gb327, _, none⟩) (by first | exact (by first | exact nb2 hw326_3 GW327.out | exact nb1 hw326_3 GW327.out) | (rw [add_block]; exact (by first | exact nb2 hw326_3 GW327.out | exact nb1 hw326_3 GW327.out)) | (show (Addr.add _ _).block ≠ _; rw [add_block]; exact (by first | exact nb2 hw326_3 GW327.out | exact nb1 hw326_3 GW327.out)) | (dsimp only; exact (by first | exact nb2 hw326_3 GW327.out | exact nb1 hw326_3 GW327.out))) _).trans (((cell_far (p := ⟨gb327, _, none⟩) (by first | exact (by first | exact nb2 hw326_3 GW327.out | exact nb1 hw326_3 GW327.out) | (rw [add_block]; exact (by first | exact nb2 hw326_3 GW327.out | exact nb1 hw326_3 GW327.out)) | (show (Addr.add _ _).block ≠ _; rw [add_block]; exact (by first | exact nb2 hw326_3 GW327.out | exact nb1 hw326_3 GW327.out)) | (dsimp only; exact (by first | exact nb2 hw326_3 GW327.out | exact nb1 hw326_3 GW327.out))) _).trans (((cell_far (p := ⟨gb327, _, none⟩) (by first | exact (by first | exact nb2 hw326_3 GW327.out | exact nb1 hw326_3 GW327.out) | (rw [add_block]; exact (by first | exact nb2 hw326_3 GW327.out | exact nb1 hw326_3 GW327.out)) | (show (Addr.add _ _).block ≠ _; rw [add_block]; exact (by first | exact nb2 hw326_3 GW327.out | exact nb1 hw326_3 GW327.out)) | (dsimp only; exact (by first | exact nb2 hw326_3 GW327.out | exact nb1 hw326_3 GW327.out))) _).trans (((cell_far (p := ⟨gb327, _, none⟩) (by first | exact (by first | exact nb2 hw326_3 GW327.out | exact nb1 hw326_3 GW327.out) | (rw [add_block]; exact (by first | exact nb2 hw326_3 GW327.out | exact nb1 hw326_3 GW327.out)) | (show (Addr.add _ _).block ≠ _; rw [add_block]; exact (by first | exact nb2 hw326_3 GW327.out | exact nb1 hw326_3 GW327.out)) | (dsimp only; exact (by first | exact nb2 hw326_3 GW327.out | exact nb1 hw326_3 GW327.out))) _).trans (hHeld.2.2.2.2.2.2.2.2.2.2.2))))))))⟩ (fun hHeld => ?_)
 clear hK K
 refine one_ (i := 13) (N := none) #[I, I, I, I, I, I, I, I, I, I, I, I, I, I] rfl rfl (one_of HT_.out (by kernel_rfl)) (by decide) (fun K hK => ?_)
 have hs20 : w15.cell? ⟨gb328, 0, none⟩ = some (.int .i64 0) := (blk_cell BK328.out 0).trans rfl
 have hfs20 := blk_frozen BK328.out 0
 have hns20_0 := NB323_328.out
 have hns20_1 := NB324_328.out
 have hns20_2 := NB327_328.out
 have hms20_0 := NB328_323.out
 have hms20_1 := NB328_324.out
 have hms20_2 := NB328_327.out
 have hs21 : w15.cell? ⟨gb328, 1, none⟩ = some (.int .i64 0) := (blk_cell BK328.out 1).trans rfl
 have hfs21 := blk_frozen BK328.out 1
 have hns21_0 := NB323_328.out
 have hns21_1 := NB324_328.out
 have hns21_2 := NB327_328.out
 have hms21_0 := NB328_323.out
 have hms21_1 := NB328_324.out
 have hms21_2 := NB328_327.out
 have hs22 : w15.cell? ⟨gb328, 2, none⟩ = some (.string (⟨#[]⟩ : ByteArray)) := (blk_cell BK328.out 2).trans rfl
 have hfs22 := blk_frozen BK328.out 2
 have hns22_0 := NB323_328.out
 have hns22_1 := NB324_328.out
 have hns22_2 := NB327_328.out
 have hms22_0 := NB328_323.out
 have hms22_1 := NB328_324.out
 have hms22_2 := NB328_327.out
 have hs23 : w15.cell? ⟨gb328, 3, none⟩ = some (.slice none 0 0) := (blk_cell BK328.out 3).trans rfl
 have hfs23 := blk_frozen BK328.out 3
 have hns23_0 := NB323_328.out
 have hns23_1 := NB324_328.out
 have hns23_2 := NB327_328.out
 have hms23_0 := NB328_323.out
 have hms23_1 := NB328_324.out
 have hms23_2 := NB328_327.out
 refine skip_ (w1 := ?_) (by rfl) rfl ?_ ?_
 rotate_left
 ·
  go_simp
  rfl
 refine hK.out _ _ ⟨((cell_far (p := ⟨gb328, _, none⟩) NB323_328.out _).trans (((cell_far (p := ⟨gb328, _, none⟩) NB323_328.out _).trans (((cell_far (p := ⟨gb328, _, none⟩) NB323_328.out _).trans (((cell_far (p := ⟨gb328, _, none⟩) NB323_328.out _).trans (hHeld.1)))))))), ((cell_far (p := ⟨gb328, _, none⟩) NB323_328.out _).trans (((cell_far (p := ⟨gb328, _, none⟩) NB323_328.out _).trans (((cell_far (p := ⟨gb328, _, none⟩) NB323_328.out _).trans (((cell_far (p := ⟨gb328, _, none⟩) NB323_328.out _).trans (hHeld.2.1)))))))), ((cell_far (p := ⟨gb328, _, none⟩) NB324_328.out _).trans (((cell_far (p := ⟨gb328, _, none⟩) NB324_328.out _).trans (((cell_far (p := ⟨gb328, _, none⟩) NB324_328.out _).trans (((cell_far (p := ⟨gb328, _, none⟩) NB324_328.out _).trans (hHeld.2.2.1)))))))), ((cell_far (p := ⟨gb328, _, none⟩) NB324_328.out _).trans (((cell_far (p := ⟨gb328, _, none⟩) NB324_328.out _).trans (((cell_far (p := ⟨gb328, _, none⟩) NB324_328.out _).trans (((cell_far (p := ⟨gb328, _, none⟩) NB324_328.out _).trans (hHeld.2.2.2.1)))))))), ((cell_far (p := ⟨gb328, _, none⟩) (by first | exact (by first | exact nb2 hw325_0 GW328.out | exact nb1 hw325_0 GW328.out) | (rw [add_block]; exact (by first | exact nb2 hw325_0 GW328.out | exact nb1 hw325_0 GW328.out)) | (show (Addr.add _ _).block ≠ _; rw [add_block]; exact (by first | exact nb2 hw325_0 GW328.out | exact nb1 hw325_0 GW328.out)) | (dsimp only; exact (by first | exact nb2 hw325_0 GW328.out | exact nb1 hw325_0 GW328.out))) _).trans (((cell_far (p := ⟨gb328, _, none⟩) (by first | exact (by first | exact nb2 hw325_0 GW328.out | exact nb1 hw325_0 GW328.out) | (rw [add_block]; exact (by first | exact nb2 hw325_0 GW328.out | exact nb1 hw325_0 GW328.out)) | (show (Addr.add _ _).block ≠ _; rw [add_block]; exact (by first | exact nb2 hw325_0 GW328.out | exact nb1 hw325_0 GW328.out)) | (dsimp only; exact (by first | exact nb2 hw325_0 GW328.out | exact nb1 hw325_0 GW328.out))) _).trans (((cell_far (p := ⟨gb328, _, none⟩) (by first | exact (by first | exact nb2 hw325_0 GW328.out | exact nb1 hw325_0 GW328.out) | (rw [add_block]; exact (by first | exact nb2 hw325_0 GW328.out | exact nb1 hw325_0 GW328.out)) | (show (Addr.add _ _).block ≠ _; rw [add_block]; exact (by first | exact nb2 hw325_0 GW328.out | exact nb1 hw325_0 GW328.out)) | (dsimp only; exact (by first | exact nb2 hw325_0 GW328.out | exact nb1 hw325_0 GW328.out))) _).trans (((cell_far (p := ⟨gb328, _, none⟩) (by first | exact (by first | exact nb2 hw325_0 GW328.out | exact nb1 hw325_0 GW328.out) | (rw [add_block]; exact (by first | exact nb2 hw325_0 GW328.out | exact nb1 hw325_0 GW328.out)) | (show (Addr.add _ _).block ≠ _; rw [add_block]; exact (by first | exact nb2 hw325_0 GW328.out | exact nb1 hw325_0 GW328.out)) | (dsimp only; exact (by first | exact nb2 hw325_0 GW328.out | exact nb1 hw325_0 GW328.out))) _).trans (hHeld.2.2.2.2.1)))))))), ((cell_far (p := ⟨gb328, _, none⟩) (by first | exact (by first | exact nb2 hw325_1 GW328.out | exact nb1 hw325_1 GW328.out) | (rw [add_block]; exact (by first | exact nb2 hw325_1 GW328.out | exact nb1 hw325_1 GW328.out)) | (show (Addr.add _ _).block ≠ _; rw [add_block]; exact (by first | exact nb2 hw325_1 GW328.out | exact nb1 hw325_1 GW328.out)) | (dsimp only; exact (by first | exact nb2 hw325_1 GW328.out | exact nb1 hw325_1 GW328.out))) _).trans (((cell_far (p := ⟨gb328, _, none⟩) (by first | exact (by first | exact nb2 hw325_1 GW328.out | exact nb1 hw325_1 GW328.out) | (rw [add_block]; exact (by first | exact nb2 hw325_1 GW328.out | exact nb1 hw325_1 GW328.out)) | (show (Addr.add _ _).block ≠ _; rw [add_block]; exact (by first | exact nb2 hw325_1 GW328.out | exact nb1 hw325_1 GW328.out)) | (dsimp only; exact (by first | exact nb2 hw325_1 GW328.out | exact nb1 hw325_1 GW328.out))) _).trans (((cell_far (p := ⟨gb328, _, none⟩) (by first | exact (by first | exact nb2 hw325_1 GW328.out | exact nb1 hw325_1 GW328.out) | (rw [add_block]; exact (by first | exact nb2 hw325_1 GW328.out | exact nb1 hw325_1 GW328.out)) | (show (Addr.add _ _).block ≠ _; rw [add_block]; exact (by first | exact nb2 hw325_1 GW328.out | exact nb1 hw325_1 GW328.out)) | (dsimp only; exact (by first | exact nb2 hw325_1 GW328.out | exact nb1 hw325_1 GW328.out))) _).trans (((cell_far (p := ⟨gb328, _, none⟩) (by first | exact (by first | exact nb2 hw325_1 GW328.out | exact nb1 hw325_1 GW328.out) | (rw [add_block]; exact (by first | exact nb2 hw325_1 GW328.out | exact nb1 hw325_1 GW328.out)) | (show (Addr.add _ _).block ≠ _; rw [add_block]; exact (by first | exact nb2 hw325_1 GW328.out | exact nb1 hw325_1 GW328.out)) | (dsimp only; exact (by first | exact nb2 hw325_1 GW328.out | exact nb1 hw325_1 GW328.out))) _).trans (hHeld.2.2.2.2.2.1)))))))), ((cell_far (p := ⟨gb328, _, none⟩) (by first | exact (by first | exact nb2 hw325_2 GW328.out | exact nb1 hw325_2 GW328.out) | (rw [add_block]; exact (by first | exact nb2 hw325_2 GW328.out | exact nb1 hw325_2 GW328.out)) | (show (Addr.add _ _).block ≠ _; rw [add_block]; exact (by first | exact nb2 hw325_2 GW328.out | exact nb1 hw325_2 GW328.out)) | (dsimp only; exact (by first | exact nb2 hw325_2 GW328.out | exact nb1 hw325_2 GW328.out))) _).trans (((cell_far (p := ⟨gb328, _, none⟩) (by first | exact (by first | exact nb2 hw325_2 GW328.out | exact nb1 hw325_2 GW328.out) | (rw [add_block]; exact (by first | exact nb2 hw325_2 GW328.out | exact nb1 hw325_2 GW328.out)) | (show (Addr.add _ _).block ≠ _; rw [add_block]; exact (by first | exact nb2 hw325_2 GW328.out | exact nb1 hw325_2 GW328.out)) | (dsimp only; exact (by first | exact nb2 hw325_2 GW328.out | exact nb1 hw325_2 GW328.out))) _).trans (((cell_far (p := ⟨gb328, _, none⟩) (by first | exact (by first | exact nb2 hw325_2 GW328.out | exact nb1 hw325_2 GW328.out) | (rw [add_block]; exact (by first | exact nb2 hw325_2 GW328.out | exact nb1 hw325_2 GW328.out)) | (show (Addr.add _ _).block ≠ _; rw [add_block]; exact (by first | exact nb2 hw325_2 GW328.out | exact nb1 hw325_2 GW328.out)) | (dsimp only; exact (by first | exact nb2 hw325_2 GW328.out | exact nb1 hw325_2 GW328.out))) _).trans (((cell_far (p := ⟨gb328, _, none⟩) (by first | exact (by first | exact nb2 hw325_2 GW328.out | exact nb1 hw325_2 GW328.out) | (rw [add_block]; exact (by first | exact nb2 hw325_2 GW328.out | exact nb1 hw325_2 GW328.out)) | (show (Addr.add _ _).block ≠ _; rw [add_block]; exact (by first | exact nb2 hw325_2 GW328.out | exact nb1 hw325_2 GW328.out)) | (dsimp only; exact (by first | exact nb2 hw325_2 GW328.out | exact nb1 hw325_2 GW328.out))) _).trans (hHeld.2.2.2.2.2.2.1)))))))), ((cell_far (p := ⟨gb328, _, none⟩) (by first | exact (by first | exact nb2 hw325_3 GW328.out | exact nb1 hw325_3 GW328.out) | (rw [add_block]; exact (by first | exact nb2 hw325_3 GW328.out | exact nb1 hw325_3 GW328.out)) | (show (Addr.add _ _).block ≠ _; rw [add_block]; exact (by first | exact nb2 hw325_3 GW328.out | exact nb1 hw325_3 GW328.out)) | (dsimp only; exact (by first | exact nb2 hw325_3 GW328.out | exact nb1 hw325_3 GW328.out))) _).trans (((cell_far (p := ⟨gb328, _, none⟩) (by first | exact (by first | exact nb2 hw325_3 GW328.out | exact nb1 hw325_3 GW328.out) | (rw [add_block]; exact (by first | exact nb2 hw325_3 GW328.out | exact nb1 hw325_3 GW328.out)) | (show (Addr.add _ _).block ≠ _; rw [add_block]; exact (by first | exact nb2 hw325_3 GW328.out | exact nb1 hw325_3 GW328.out)) | (dsimp only; exact (by first | exact nb2 hw325_3 GW328.out | exact nb1 hw325_3 GW328.out))) _).trans (((cell_far (p := ⟨gb328, _, none⟩) (by first | exact (by first | exact nb2 hw325_3 GW328.out | exact nb1 hw325_3 GW328.out) | (rw [add_block]; exact (by first | exact nb2 hw325_3 GW328.out | exact nb1 hw325_3 GW328.out)) | (show (Addr.add _ _).block ≠ _; rw [add_block]; exact (by first | exact nb2 hw325_3 GW328.out | exact nb1 hw325_3 GW328.out)) | (dsimp only; exact (by first | exact nb2 hw325_3 GW328.out | exact nb1 hw325_3 GW328.out))) _).trans (((cell_far (p := ⟨gb328, _, none⟩) (by first | exact (by first | exact nb2 hw325_3 GW328.out | exact nb1 hw325_3 GW328.out) | (rw [add_block]; exact (by first | exact nb2 hw325_3 GW328.out | exact nb1 hw325_3 GW328.out)) | (show (Addr.add _ _).block ≠ _; rw [add_block]; exact (by first | exact nb2 hw325_3 GW328.out | exact nb1 hw325_3 GW328.out)) | (dsimp only; exact (by first | exact nb2 hw325_3 GW328.out | exact nb1 hw325_3 GW328.out))) _).trans (hHeld.2.2.2.2.2.2.2.1)))))))), ((cell_far (p := ⟨gb328, _, none⟩) (by first | exact (by first | exact nb2 hw326_0 GW328.out | exact nb1 hw326_0 GW328.out) | (rw [add_block]; exact (by first | exact nb2 hw326_0 GW328.out | exact nb1 hw326_0 GW328.out)) | (show (Addr.add _ _).block ≠ _; rw [add_block]; exact (by first | exact nb2 hw326_0 GW328.out | exact nb1 hw326_0 GW328.out)) | (dsimp only; exact (by first | exact nb2 hw326_0 GW328.out | exact nb1 hw326_0 GW328.out))) _).trans (((cell_far (p := ⟨gb328, _, none⟩) (by first | exact (by first | exact nb2 hw326_0 GW328.out | exact nb1 hw326_0 GW328.out) | (rw [add_block]; exact (by first | exact nb2 hw326_0 GW328.out | exact nb1 hw326_0 GW328.out)) | (show (Addr.add _ _).block ≠ _; rw [add_block]; exact (by first | exact nb2 hw326_0 GW328.out | exact nb1 hw326_0 GW328.out)) | (dsimp only; exact (by first | exact nb2 hw326_0 GW328.out | exact nb1 hw326_0 GW328.out))) _).trans (((cell_far (p := ⟨gb328, _, none⟩) (by first | exact (by first | exact nb2 hw326_0 GW328.out | exact nb1 hw326_0 GW328.out) | (rw [add_block]; exact (by first | exact nb2 hw326_0 GW328.out | exact nb1 hw326_0 GW328.out)) | (show (Addr.add _ _).block ≠ _; rw [add_block]; exact (by first | exact nb2 hw326_0 GW328.out | exact nb1 hw326_0 GW328.out)) | (dsimp only; exact (by first | exact nb2 hw326_0 GW328.out | exact nb1 hw326_0 GW328.out))) _).trans (((cell_far (p := ⟨gb328, _, none⟩) (by first | exact (by first | exact nb2 hw326_0 GW328.out | exact nb1 hw326_0 GW328.out) | (rw [add_block]; exact (by first | exact nb2 hw326_0 GW328.out | exact nb1 hw326_0 GW328.out)) | (show (Addr.add _ _).block ≠ _; rw [add_block]; exact (by first | exact nb2 hw326_0 GW328.out | exact nb1 hw326_0 GW328.out)) | (dsimp only; exact (by first | exact nb2 hw326_0 GW328.out | exact nb1 hw326_0 GW328.out))) _).trans (hHeld.2.2.2.2.2.2.2.2.1)))))))), ((cell_far (p := ⟨gb328, _, none⟩) (by first | exact (by first | exact nb2 hw326_1 GW328.out | exact nb1 hw326_1 GW328.out) | (rw [add_block]; exact (by first | exact nb2 hw326_1 GW328.out | exact nb1 hw326_1 GW328.out)) | (show (Addr.add _ _).block ≠ _; rw [add_block]; exact (by first | exact nb2 hw326_1 GW328.out | exact nb1 hw326_1 GW328.out)) | (dsimp only; exact (by first | exact nb2 hw326_1 GW328.out | exact nb1 hw326_1 GW328.out))) _).trans (((cell_far (p := ⟨gb328, _, none⟩) (by first | exact (by first | exact nb2 hw326_1 GW328.out | exact nb1 hw326_1 GW328.out) | (rw [add_block]; exact (by first | exact nb2 hw326_1 GW328.out | exact nb1 hw326_1 GW328.out)) | (show (Addr.add _ _).block ≠ _; rw [add_block]; exact (by first | exact nb2 hw326_1 GW328.out | exact nb1 hw326_1 GW328.out)) | (dsimp only; exact (by first | exact nb2 hw326_1 GW328.out | exact nb1 hw326_1 GW328.out))) _).trans (((cell_far (p := ⟨gb328, _, none⟩) (by first | exact (by first | exact nb2 hw326_1 GW328.out | exact nb1 hw326_1 GW328.out) | (rw [add_block]; exact (by first | exact nb2 hw326_1 GW328.out | exact nb1 hw326_1 GW328.out)) | (show (Addr.add _ _).block ≠ _; rw [add_block]; exact (by first | exact nb2 hw326_1 GW328.out | exact nb1 hw326_1 GW328.out)) | (dsimp only; exact (by first | exact nb2 hw326_1 GW328.out | exact nb1 hw326_1 GW328.out))) _).trans (((cell_far (p := ⟨gb328, _, none⟩) (by first | exact (by first | exact nb2 hw326_1 GW328.out | exact nb1 hw326_1 GW328.out) | (rw [add_block]; exact (by first | exact nb2 hw326_1 GW328.out | exact nb1 hw326_1 GW328.out)) | (show (Addr.add _ _).block ≠ _; rw [add_block]; exact (by first | exact nb2 hw326_1 GW328.out | exact nb1 hw326_1 GW328.out)) | (dsimp only; exact (by first | exact nb2 hw326_1 GW328.out | exact nb1 hw326_1 GW328.out))) _).trans (hHeld.2.2.2.2.2.2.2.2.2.1)))))))), ((cell_far (p := ⟨gb328, _, none⟩) (by first | exact (by first | exact nb2 hw326_2 GW328.out | exact nb1 hw326_2 GW328.out) | (rw [add_block]; exact (by first | exact nb2 hw326_2 GW328.out | exact nb1 hw326_2 GW328.out)) | (show (Addr.add _ _).block ≠ _; rw [add_block]; exact (by first | exact nb2 hw326_2 GW328.out | exact nb1 hw326_2 GW328.out)) | (dsimp only; exact (by first | exact nb2 hw326_2 GW328.out | exact nb1 hw326_2 GW328.out))) _).trans (((cell_far (p := ⟨gb328, _, none⟩) (by first | exact (by first | exact nb2 hw326_2 GW328.out | exact nb1 hw326_2 GW328.out) | (rw [add_block]; exact (by first | exact nb2 hw326_2 GW328.out | exact nb1 hw326_2 GW328.out)) | (show (Addr.add _ _).block ≠ _; rw [add_block]; exact (by first | exact nb2 hw326_2 GW328.out | exact nb1 hw326_2 GW328.out)) | (dsimp only; exact (by first | exact nb2 hw326_2 GW328.out | exact nb1 hw326_2 GW328.out))) _).trans (((cell_far (p := ⟨gb328, _, none⟩) (by first | exact (by first | exact nb2 hw326_2 GW328.out | exact nb1 hw326_2 GW328.out) | (rw [add_block]; exact (by first | exact nb2 hw326_2 GW328.out | exact nb1 hw326_2 GW328.out)) | (show (Addr.add _ _).block ≠ _; rw [add_block]; exact (by first | exact nb2 hw326_2 GW328.out | exact nb1 hw326_2 GW328.out)) | (dsimp only; exact (by first | exact nb2 hw326_2 GW328.out | exact nb1 hw326_2 GW328.out))) _).trans (((cell_far (p := ⟨gb328, _, none⟩) (by first | exact (by first | exact nb2 hw326_2 GW328.out | exact nb1 hw326_2 GW328.out) | (rw [add_block]; exact (by first | exact nb2 hw326_2 GW328.out | exact nb1 hw326_2 GW328.out)) | (show (Addr.add _ _).block ≠ _; rw [add_block]; exact (by first | exact nb2 hw326_2 GW328.out | exact nb1 hw326_2 GW328.out)) | (dsimp only; exact (by first | exact nb2 hw326_2 GW328.out | exact nb1 hw326_2 GW328.out))) _).trans (hHeld.2.2.2.2.2.2.2.2.2.2.1)))))))), ((cell_far (p := ⟨gb328, _, none⟩) (by first | exact (by first | exact nb2 hw326_3 GW328.out | exact nb1 hw326_3 GW328.out) | (rw [add_block]; exact (by first | exact nb2 hw326_3 GW328.out | exact nb1 hw326_3 GW328.out)) | (show (Addr.add _ _).block ≠ _; rw [add_block]; exact (by first | exact nb2 hw326_3 GW328.out | exact nb1 hw326_3 GW328.out)) | (dsimp only; exact (by first | exact nb2 hw326_3 GW328.out | exact nb1 hw326_3 GW328.out))) _).trans (((cell_far (p := ⟨gb328, _, none⟩) (by first | exact (by first | exact nb2 hw326_3 GW328.out | exact nb1 hw326_3 GW328.out) | (rw [add_block]; exact (by first | exact nb2 hw326_3 GW328.out | exact nb1 hw326_3 GW328.out)) | (show (Addr.add _ _).block ≠ _; rw [add_block]; exact (by first | exact nb2 hw326_3 GW328.out | exact nb1 hw326_3 GW328.out)) | (dsimp only; exact (by first | exact nb2 hw326_3 GW328.out | exact nb1 hw326_3 GW328.out))) _).trans (((cell_far (p := ⟨gb328, _, none⟩) (by first | exact (by first | exact nb2 hw326_3 GW328.out | exact nb1 hw326_3 GW328.out) | (rw [add_block]; exact (by first | exact nb2 hw326_3 GW328.out | exact nb1 hw326_3 GW328.out)) | (show (Addr.add _ _).block ≠ _; rw [add_block]; exact (by first | exact nb2 hw326_3 GW328.out | exact nb1 hw326_3 GW328.out)) | (dsimp only; exact (by first | exact nb2 hw326_3 GW328.out | exact nb1 hw326_3 GW328.out))) _).trans (((cell_far (p := ⟨gb328, _, none⟩) (by first | exact (by first | exact nb2 hw326_3 GW328.out | exact nb1 hw326_3 GW328.out) | (rw [add_block]; exact (by first | exact nb2 hw326_3 GW328.out | exact nb1 hw326_3 GW328.out)) | (show (Addr.add _ _).block ≠ _; rw [add_block]; exact (by first | exact nb2 hw326_3 GW328.out | exact nb1 hw326_3 GW328.out)) | (dsimp only; exact (by first | exact nb2 hw326_3 GW328.out | exact nb1 hw326_3 GW328.out))) _).trans (hHeld.2.2.2.2.2.2.2.2.2.2.2))))))))⟩ (fun hHeld => ?_)
 clear hK K
 refine done_ (done_of HT_.out (by kernel_rfl)) ?_
 go_upto_region 2 with (fail)
 go_cut [49] (fun v49 wc => ∃ (kq : Nat) (x49_8 : Bool), v49 = .bool x49_8 ∧ As (impl_sameTree.j0 kq x49_8 l0_0 l0_1 l2_0 l2_1 ((rd_T64 l0_0 a1).f0) ((rd_T64 l0_0 a1).f1) ((rd_T64 l0_0 a1).f2) ((rd_T64 l0_0 a1).f3) ((rd_T64 l2_0 a3).f0) ((rd_T64 l2_0 a3).f1) ((rd_T64 l2_0 a3).f2) ((rd_T64 l2_0 a3).f3) = some r) ∧ As (kq ≤ k) ∧ As (wc.heap[gb323]? = some (.cells #[(.slice (some ad325) l0_0.length c0_0), (.slice A0_1 l0_1.length c0_1)] 52 (0, 0))) ∧ As (wc.heap[gb324]? = some (.cells #[(.slice (some ad326) l2_0.length c2_0), (.slice A2_1 l2_1.length c2_1)] 52 (0, 0))) ∧ As (wc.heap[gb327]? = some (.cells #[.int .i64 ((rd_T64 l0_0 a1).f0), .int .i64 ((rd_T64 l0_0 a1).f1), .string ((rd_T64 l0_0 a1).f2), (.slice A325_3 ((rd_T64 l0_0 a1).f3).length c325_3)] 64 (0, 0))) ∧ As (wc.heap[gb328]? = some (.cells #[.int .i64 ((rd_T64 l2_0 a3).f0), .int .i64 ((rd_T64 l2_0 a3).f1), .string ((rd_T64 l2_0 a3).f2), (.slice A326_3 ((rd_T64 l2_0 a3).f3).length c326_3)] 64 (0, 0))) ∧ As (Below w.heap.size w wc))
 case first =>
  have H := HC9.out
  clear HC9
  by_cases c24 : ((rd_T64 l0_0 a1).f0) = ((rd_T64 l2_0 a3).f0)
  rotate_left
  ·
   rw [if_neg c24] at H
   have c24b0 : (((rd_T64 l0_0 a1).f0) == ((rd_T64 l2_0 a3).f0)) = false := beq_eq_false_iff_ne.mpr c24
   have c24b1 : (((rd_T64 l0_0 a1).f0) != ((rd_T64 l2_0 a3).f0)) = true := bne_iff_ne.mpr c24
   (first | rw [c24b0] | (simp only [i64_w, i32_w]; rw [c24b0]) | skip)
   have H' := As.mk H
   clear H
   have hnb48 := NB327_323.out
   have hnc48 := NB323_327.out
   have hnb49 := NB327_324.out
   have hnc49 := NB324_327.out
   have hnb50 := NB327_328.out
   have hnc50 := NB328_327.out
   obtain ⟨hcz51_0, hcz51_1, hcz51_2, hcz51_3, hfz51_0, hfz51_1, hfz51_2, hfz51_3⟩ := cl4 BK327.out
   have hnb52 := NB328_323.out
   have hnc52 := NB323_328.out
   have hnb53 := NB328_324.out
   have hnc53 := NB324_328.out
   obtain ⟨hcz54_0, hcz54_1, hcz54_2, hcz54_3, hfz54_0, hfz54_1, hfz54_2, hfz54_3⟩ := cl4 BK328.out
   go_wp2
   go_meet
   case rel => exact ⟨_, (true), (by first | rfl | (simp; done) | (simp [*]; done)), H', ⟨by first | omega | exact Nat.le_refl _⟩, ⟨by refine pl ?_; refine blk_far ?_ NB323_328.out _; refine pl ?_; refine blk_far ?_ NB323_328.out _; refine pl ?_; refine blk_far ?_ NB323_328.out _; refine pl ?_; refine blk_far ?_ NB323_328.out _; refine pl ?_; refine blk_far ?_ NB323_327.out _; refine pl ?_; refine blk_far ?_ NB323_327.out _; refine pl ?_; refine blk_far ?_ NB323_327.out _; refine pl ?_; refine blk_far ?_ NB323_327.out _; exact bx BK323.out⟩, ⟨by refine pl ?_; refine blk_far ?_ NB324_328.out _; refine pl ?_; refine blk_far ?_ NB324_328.out _; refine pl ?_; refine blk_far ?_ NB324_328.out _; refine pl ?_; refine blk_far ?_ NB324_328.out _; refine pl ?_; refine blk_far ?_ NB324_327.out _; refine pl ?_; refine blk_far ?_ NB324_327.out _; refine pl ?_; refine blk_far ?_ NB324_327.out _; refine pl ?_; refine blk_far ?_ NB324_327.out _; exact bx BK324.out⟩, ⟨by refine pl ?_; refine blk_far ?_ NB327_328.out _; refine pl ?_; refine blk_far ?_ NB327_328.out _; refine pl ?_; refine blk_far ?_ NB327_328.out _; refine pl ?_; refine blk_far ?_ NB327_328.out _; refine pl ?_; refine blk_put (cs := #[.int .i64 ((rd_T64 l0_0 a1).f0), .int .i64 ((rd_T64 l0_0 a1).f1), .string ((rd_T64 l0_0 a1).f2), .slice none 0 0]) ?_ 3 _ rfl; refine pl ?_; refine blk_put (cs := #[.int .i64 ((rd_T64 l0_0 a1).f0), .int .i64 ((rd_T64 l0_0 a1).f1), .string (⟨#[]⟩ : ByteArray), .slice none 0 0]) ?_ 2 _ rfl; refine pl ?_; refine blk_put (cs := #[.int .i64 ((rd_T64 l0_0 a1).f0), .int .i64 0, .string (⟨#[]⟩ : ByteArray), .slice none 0 0]) ?_ 1 _ rfl; refine pl ?_; refine blk_put (cs := #[.int .i64 0, .int .i64 0, .string (⟨#[]⟩ : ByteArray), .slice none 0 0]) ?_ 0 _ rfl; exact bx BK327.out⟩, ⟨by refine pl ?_; refine blk_put (cs := #[.int .i64 ((rd_T64 l2_0 a3).f0), .int .i64 ((rd_T64 l2_0 a3).f1), .string ((rd_T64 l2_0 a3).f2), .slice none 0 0]) ?_ 3 _ rfl; refine pl ?_; refine blk_put (cs := #[.int .i64 ((rd_T64 l2_0 a3).f0), .int .i64 ((rd_T64 l2_0 a3).f1), .string (⟨#[]⟩ : ByteArray), .slice none 0 0]) ?_ 2 _ rfl; refine pl ?_; refine blk_put (cs := #[.int .i64 ((rd_T64 l2_0 a3).f0), .int .i64 0, .string (⟨#[]⟩ : ByteArray), .slice none 0 0]) ?_ 1 _ rfl; refine pl ?_; refine blk_put (cs := #[.int .i64 0, .int .i64 0, .string (⟨#[]⟩ : ByteArray), .slice none 0 0]) ?_ 0 _ rfl; refine pl ?_; refine blk_far ?_ NB328_327.out _; refine pl ?_; refine blk_far ?_ NB328_327.out _; refine pl ?_; refine blk_far ?_ NB328_327.out _; refine pl ?_; refine blk_far ?_ NB328_327.out _; exact bx BK328.out⟩, ⟨be w⟩⟩
  rw [if_pos c24] at H
  have c24b0 : (((rd_T64 l0_0 a1).f0) == ((rd_T64 l2_0 a3).f0)) = true := beq_iff_eq.mpr c24
  have c24b1 : (((rd_T64 l0_0 a1).f0) != ((rd_T64 l2_0 a3).f0)) = false := bne_eq_false_iff_eq.mpr c24
  clear c24
  (first | rw [c24b0] | (simp only [i64_w, i32_w]; rw [c24b0]) | skip)
  by_cases c25 : ((rd_T64 l0_0 a1).f1) = ((rd_T64 l2_0 a3).f1)
  rotate_left
  ·
   rw [if_neg c25] at H
   have c25b0 : (((rd_T64 l0_0 a1).f1) == ((rd_T64 l2_0 a3).f1)) = false := beq_eq_false_iff_ne.mpr c25
   have c25b1 : (((rd_T64 l0_0 a1).f1) != ((rd_T64 l2_0 a3).f1)) = true := bne_iff_ne.mpr c25
   have H' := As.mk H
   clear H
   have hnb41 := NB327_323.out
   have hnc41 := NB323_327.out
   have hnb42 := NB327_324.out
   have hnc42 := NB324_327.out
   have hnb43 := NB327_328.out
   have hnc43 := NB328_327.out
   obtain ⟨hcz44_0, hcz44_1, hcz44_2, hcz44_3, hfz44_0, hfz44_1, hfz44_2, hfz44_3⟩ := cl4 BK327.out
   have hnb45 := NB328_323.out
   have hnc45 := NB323_328.out
   have hnb46 := NB328_324.out
   have hnc46 := NB324_328.out
   obtain ⟨hcz47_0, hcz47_1, hcz47_2, hcz47_3, hfz47_0, hfz47_1, hfz47_2, hfz47_3⟩ := cl4 BK328.out
   go_wp2
   go_meet
   case rel => exact ⟨_, (true), (by first | rfl | (simp; done) | (simp [*]; done)), H', ⟨by first | omega | exact Nat.le_refl _⟩, ⟨by refine pl ?_; refine blk_far ?_ NB323_328.out _; refine pl ?_; refine blk_far ?_ NB323_328.out _; refine pl ?_; refine blk_far ?_ NB323_328.out _; refine pl ?_; refine blk_far ?_ NB323_328.out _; refine pl ?_; refine blk_far ?_ NB323_327.out _; refine pl ?_; refine blk_far ?_ NB323_327.out _; refine pl ?_; refine blk_far ?_ NB323_327.out _; refine pl ?_; refine blk_far ?_ NB323_327.out _; exact bx BK323.out⟩, ⟨by refine pl ?_; refine blk_far ?_ NB324_328.out _; refine pl ?_; refine blk_far ?_ NB324_328.out _; refine pl ?_; refine blk_far ?_ NB324_328.out _; refine pl ?_; refine blk_far ?_ NB324_328.out _; refine pl ?_; refine blk_far ?_ NB324_327.out _; refine pl ?_; refine blk_far ?_ NB324_327.out _; refine pl ?_; refine blk_far ?_ NB324_327.out _; refine pl ?_; refine blk_far ?_ NB324_327.out _; exact bx BK324.out⟩, ⟨by refine pl ?_; refine blk_far ?_ NB327_328.out _; refine pl ?_; refine blk_far ?_ NB327_328.out _; refine pl ?_; refine blk_far ?_ NB327_328.out _; refine pl ?_; refine blk_far ?_ NB327_328.out _; refine pl ?_; refine blk_put (cs := #[.int .i64 ((rd_T64 l0_0 a1).f0), .int .i64 ((rd_T64 l0_0 a1).f1), .string ((rd_T64 l0_0 a1).f2), .slice none 0 0]) ?_ 3 _ rfl; refine pl ?_; refine blk_put (cs := #[.int .i64 ((rd_T64 l0_0 a1).f0), .int .i64 ((rd_T64 l0_0 a1).f1), .string (⟨#[]⟩ : ByteArray), .slice none 0 0]) ?_ 2 _ rfl; refine pl ?_; refine blk_put (cs := #[.int .i64 ((rd_T64 l0_0 a1).f0), .int .i64 0, .string (⟨#[]⟩ : ByteArray), .slice none 0 0]) ?_ 1 _ rfl; refine pl ?_; refine blk_put (cs := #[.int .i64 0, .int .i64 0, .string (⟨#[]⟩ : ByteArray), .slice none 0 0]) ?_ 0 _ rfl; exact bx BK327.out⟩, ⟨by refine pl ?_; refine blk_put (cs := #[.int .i64 ((rd_T64 l2_0 a3).f0), .int .i64 ((rd_T64 l2_0 a3).f1), .string ((rd_T64 l2_0 a3).f2), .slice none 0 0]) ?_ 3 _ rfl; refine pl ?_; refine blk_put (cs := #[.int .i64 ((rd_T64 l2_0 a3).f0), .int .i64 ((rd_T64 l2_0 a3).f1), .string (⟨#[]⟩ : ByteArray), .slice none 0 0]) ?_ 2 _ rfl; refine pl ?_; refine blk_put (cs := #[.int .i64 ((rd_T64 l2_0 a3).f0), .int .i64 0, .string (⟨#[]⟩ : ByteArray), .slice none 0 0]) ?_ 1 _ rfl; refine pl ?_; refine blk_put (cs := #[.int .i64 0, .int .i64 0, .string (⟨#[]⟩ : ByteArray), .slice none 0 0]) ?_ 0 _ rfl; refine pl ?_; refine blk_far ?_ NB328_327.out _; refine pl ?_; refine blk_far ?_ NB328_327.out _; refine pl ?_; refine blk_far ?_ NB328_327.out _; refine pl ?_; refine blk_far ?_ NB328_327.out _; exact bx BK328.out⟩, ⟨be w⟩⟩
  rw [if_pos c25] at H
  have c25b0 : (((rd_T64 l0_0 a1).f1) == ((rd_T64 l2_0 a3).f1)) = true := beq_iff_eq.mpr c25
  have c25b1 : (((rd_T64 l0_0 a1).f1) != ((rd_T64 l2_0 a3).f1)) = false := bne_eq_false_iff_eq.mpr c25
  clear c25
  by_cases c26 : ((rd_T64 l0_0 a1).f2).toList = ((rd_T64 l2_0 a3).f2).toList
  rotate_left
  ·
   rw [if_neg c26] at H
   have c26b0 : (((rd_T64 l0_0 a1).f2).toList == ((rd_T64 l2_0 a3).f2).toList) = false := beq_eq_false_iff_ne.mpr c26
   have c26b1 : (((rd_T64 l0_0 a1).f2).toList != ((rd_T64 l2_0 a3).f2).toList) = true := bne_iff_ne.mpr c26
   have H' := As.mk H
   clear H
   have hnb34 := NB327_323.out
   have hnc34 := NB323_327.out
   have hnb35 := NB327_324.out
   have hnc35 := NB324_327.out
   have hnb36 := NB327_328.out
   have hnc36 := NB328_327.out
   obtain ⟨hcz37_0, hcz37_1, hcz37_2, hcz37_3, hfz37_0, hfz37_1, hfz37_2, hfz37_3⟩ := cl4 BK327.out
   have hnb38 := NB328_323.out
   have hnc38 := NB323_328.out
   have hnb39 := NB328_324.out
   have hnc39 := NB324_328.out
   obtain ⟨hcz40_0, hcz40_1, hcz40_2, hcz40_3, hfz40_0, hfz40_1, hfz40_2, hfz40_3⟩ := cl4 BK328.out
   go_wp2
   go_meet
   case rel => exact ⟨_, (true), (by first | rfl | (simp; done) | (simp [*]; done)), H', ⟨by first | omega | exact Nat.le_refl _⟩, ⟨by refine pl ?_; refine blk_far ?_ NB323_328.out _; refine pl ?_; refine blk_far ?_ NB323_328.out _; refine pl ?_; refine blk_far ?_ NB323_328.out _; refine pl ?_; refine blk_far ?_ NB323_328.out _; refine pl ?_; refine blk_far ?_ NB323_327.out _; refine pl ?_; refine blk_far ?_ NB323_327.out _; refine pl ?_; refine blk_far ?_ NB323_327.out _; refine pl ?_; refine blk_far ?_ NB323_327.out _; exact bx BK323.out⟩, ⟨by refine pl ?_; refine blk_far ?_ NB324_328.out _; refine pl ?_; refine blk_far ?_ NB324_328.out _; refine pl ?_; refine blk_far ?_ NB324_328.out _; refine pl ?_; refine blk_far ?_ NB324_328.out _; refine pl ?_; refine blk_far ?_ NB324_327.out _; refine pl ?_; refine blk_far ?_ NB324_327.out _; refine pl ?_; refine blk_far ?_ NB324_327.out _; refine pl ?_; refine blk_far ?_ NB324_327.out _; exact bx BK324.out⟩, ⟨by refine pl ?_; refine blk_far ?_ NB327_328.out _; refine pl ?_; refine blk_far ?_ NB327_328.out _; refine pl ?_; refine blk_far ?_ NB327_328.out _; refine pl ?_; refine blk_far ?_ NB327_328.out _; refine pl ?_; refine blk_put (cs := #[.int .i64 ((rd_T64 l0_0 a1).f0), .int .i64 ((rd_T64 l0_0 a1).f1), .string ((rd_T64 l0_0 a1).f2), .slice none 0 0]) ?_ 3 _ rfl; refine pl ?_; refine blk_put (cs := #[.int .i64 ((rd_T64 l0_0 a1).f0), .int .i64 ((rd_T64 l0_0 a1).f1), .string (⟨#[]⟩ : ByteArray), .slice none 0 0]) ?_ 2 _ rfl; refine pl ?_; refine blk_put (cs := #[.int .i64 ((rd_T64 l0_0 a1).f0), .int .i64 0, .string (⟨#[]⟩ : ByteArray), .slice none 0 0]) ?_ 1 _ rfl; refine pl ?_; refine blk_put (cs := #[.int .i64 0, .int .i64 0, .string (⟨#[]⟩ : ByteArray), .slice none 0 0]) ?_ 0 _ rfl; exact bx BK327.out⟩, ⟨by refine pl ?_; refine blk_put (cs := #[.int .i64 ((rd_T64 l2_0 a3).f0), .int .i64 ((rd_T64 l2_0 a3).f1), .string ((rd_T64 l2_0 a3).f2), .slice none 0 0]) ?_ 3 _ rfl; refine pl ?_; refine blk_put (cs := #[.int .i64 ((rd_T64 l2_0 a3).f0), .int .i64 ((rd_T64 l2_0 a3).f1), .string (⟨#[]⟩ : ByteArray), .slice none 0 0]) ?_ 2 _ rfl; refine pl ?_; refine blk_put (cs := #[.int .i64 ((rd_T64 l2_0 a3).f0), .int .i64 0, .string (⟨#[]⟩ : ByteArray), .slice none 0 0]) ?_ 1 _ rfl; refine pl ?_; refine blk_put (cs := #[.int .i64 0, .int .i64 0, .string (⟨#[]⟩ : ByteArray), .slice none 0 0]) ?_ 0 _ rfl; refine pl ?_; refine blk_far ?_ NB328_327.out _; refine pl ?_; refine blk_far ?_ NB328_327.out _; refine pl ?_; refine blk_far ?_ NB328_327.out _; refine pl ?_; refine blk_far ?_ NB328_327.out _; exact bx BK328.out⟩, ⟨be w⟩⟩
  rw [if_pos c26] at H
  have c26b0 : (((rd_T64 l0_0 a1).f2).toList == ((rd_T64 l2_0 a3).f2).toList) = true := beq_iff_eq.mpr c26
  have c26b1 : (((rd_T64 l0_0 a1).f2).toList != ((rd_T64 l2_0 a3).f2).toList) = false := bne_eq_false_iff_eq.mpr c26
  clear c26
  have H' := As.mk H
  clear H
  have hnb27 := NB327_323.out
  have hnc27 := NB323_327.out
  have hnb28 := NB327_324.out
  have hnc28 := NB324_327.out
  have hnb29 := NB327_328.out
  have hnc29 := NB328_327.out
  obtain ⟨hcz30_0, hcz30_1, hcz30_2, hcz30_3, hfz30_0, hfz30_1, hfz30_2, hfz30_3⟩ := cl4 BK327.out
  have hnb31 := NB328_323.out
  have hnc31 := NB323_328.out
  have hnb32 := NB328_324.out
  have hnc32 := NB324_328.out
  obtain ⟨hcz33_0, hcz33_1, hcz33_2, hcz33_3, hfz33_0, hfz33_1, hfz33_2, hfz33_3⟩ := cl4 BK328.out
  go_wp2
  go_meet
  case rel => exact ⟨_, (((((rd_T64 l0_0 a1).f3).length : Int) != (((rd_T64 l2_0 a3).f3).length : Int))), (by first | rfl | (simp; done) | (simp [*]; done)), H', ⟨by first | omega | exact Nat.le_refl _⟩, ⟨by refine pl ?_; refine blk_far ?_ NB323_328.out _; refine pl ?_; refine blk_far ?_ NB323_328.out _; refine pl ?_; refine blk_far ?_ NB323_328.out _; refine pl ?_; refine blk_far ?_ NB323_328.out _; refine pl ?_; refine blk_far ?_ NB323_327.out _; refine pl ?_; refine blk_far ?_ NB323_327.out _; refine pl ?_; refine blk_far ?_ NB323_327.out _; refine pl ?_; refine blk_far ?_ NB323_327.out _; exact bx BK323.out⟩, ⟨by refine pl ?_; refine blk_far ?_ NB324_328.out _; refine pl ?_; refine blk_far ?_ NB324_328.out _; refine pl ?_; refine blk_far ?_ NB324_328.out _; refine pl ?_; refine blk_far ?_ NB324_328.out _; refine pl ?_; refine blk_far ?_ NB324_327.out _; refine pl ?_; refine blk_far ?_ NB324_327.out _; refine pl ?_; refine blk_far ?_ NB324_327.out _; refine pl ?_; refine blk_far ?_ NB324_327.out _; exact bx BK324.out⟩, ⟨by refine pl ?_; refine blk_far ?_ NB327_328.out _; refine pl ?_; refine blk_far ?_ NB327_328.out _; refine pl ?_; refine blk_far ?_ NB327_328.out _; refine pl ?_; refine blk_far ?_ NB327_328.out _; refine pl ?_; refine blk_put (cs := #[.int .i64 ((rd_T64 l0_0 a1).f0), .int .i64 ((rd_T64 l0_0 a1).f1), .string ((rd_T64 l0_0 a1).f2), .slice none 0 0]) ?_ 3 _ rfl; refine pl ?_; refine blk_put (cs := #[.int .i64 ((rd_T64 l0_0 a1).f0), .int .i64 ((rd_T64 l0_0 a1).f1), .string (⟨#[]⟩ : ByteArray), .slice none 0 0]) ?_ 2 _ rfl; refine pl ?_; refine blk_put (cs := #[.int .i64 ((rd_T64 l0_0 a1).f0), .int .i64 0, .string (⟨#[]⟩ : ByteArray), .slice none 0 0]) ?_ 1 _ rfl; refine pl ?_; refine blk_put (cs := #[.int .i64 0, .int .i64 0, .string (⟨#[]⟩ : ByteArray), .slice none 0 0]) ?_ 0 _ rfl; exact bx BK327.out⟩, ⟨by refine pl ?_; refine blk_put (cs := #[.int .i64 ((rd_T64 l2_0 a3).f0), .int .i64 ((rd_T64 l2_0 a3).f1), .string ((rd_T64 l2_0 a3).f2), .slice none 0 0]) ?_ 3 _ rfl; refine pl ?_; refine blk_put (cs := #[.int .i64 ((rd_T64 l2_0 a3).f0), .int .i64 ((rd_T64 l2_0 a3).f1), .string (⟨#[]⟩ : ByteArray), .slice none 0 0]) ?_ 2 _ rfl; refine pl ?_; refine blk_put (cs := #[.int .i64 ((rd_T64 l2_0 a3).f0), .int .i64 0, .string (⟨#[]⟩ : ByteArray), .slice none 0 0]) ?_ 1 _ rfl; refine pl ?_; refine blk_put (cs := #[.int .i64 0, .int .i64 0, .string (⟨#[]⟩ : ByteArray), .slice none 0 0]) ?_ 0 _ rfl; refine pl ?_; refine blk_far ?_ NB328_327.out _; refine pl ?_; refine blk_far ?_ NB328_327.out _; refine pl ?_; refine blk_far ?_ NB328_327.out _; refine pl ?_; refine blk_far ?_ NB328_327.out _; exact bx BK328.out⟩, ⟨be w⟩⟩
 case rest =>
  clear HC9
  (try clear c5); (try clear c5b0); (try clear c6); (try clear c6b0); (try clear c7); (try clear c7b0); (try clear c8); (try clear c8b0); (try clear hx325_0); (try clear hx325_1); (try clear hx325_2); (try clear hx325_3); (try clear hx326_0); (try clear hx326_1); (try clear hx326_2); (try clear hx326_3); (try clear p325); (try clear p326); (try clear q325); (try clear q326)
  obtain ⟨kq, x49_8, rfl, HA, HJ8, BK323, BK324, BK327, BK328, HB⟩ := hcut
  cases kq with
  | zero => exact absurd HA.out (by simp [impl_sameTree.j0])
  | succ kj8 =>
   have H := HA.out
   clear HA
   simp only [impl_sameTree.j0] at H
   by_cases c55 : x49_8 = true
   ·
    subst c55
    rw [if_pos rfl] at H
    obtain rfl := Option.some.inj H
    go_wp2
    go_ret
    exact ⟨by first | rfl | (simp [errW_none, errW_some] <;> rfl) | (simp [*, errW_none, errW_some] <;> rfl), be w⟩
   replace c55 := Bool.eq_false_iff.mpr c55
   subst c55
   rw [if_neg (show ¬ (false = true) by decide)] at H
   have H' := As.mk H
   clear H
   have hnb56 := NB327_323.out
   have hnc56 := NB323_327.out
   have hnb57 := NB327_324.out
   have hnc57 := NB324_327.out
   have hnb58 := NB327_328.out
   have hnc58 := NB328_327.out
   obtain ⟨hcz59_0, hcz59_1, hcz59_2, hcz59_3, hfz59_0, hfz59_1, hfz59_2, hfz59_3⟩ := cl4 BK327.out
   go_wp2
   go_loopg [53] kj8 (fun kq v53 w' => ∃ (x53_2 : Int), v53 = .int .i64 x53_2 ∧ As (impl_sameTree.l0 kq (((rd_T64 l0_0 a1).f3).length : Int) x53_2 l0_0 l0_1 l2_0 l2_1 ((rd_T64 l0_0 a1).f0) ((rd_T64 l0_0 a1).f1) ((rd_T64 l0_0 a1).f2) ((rd_T64 l0_0 a1).f3) ((rd_T64 l2_0 a3).f0) ((rd_T64 l2_0 a3).f1) ((rd_T64 l2_0 a3).f2) ((rd_T64 l2_0 a3).f3) = some r) ∧ As (kq ≤ kj8) ∧ As (w'.heap[gb323]? = some (.cells #[(.slice (some ad325) l0_0.length c0_0), (.slice A0_1 l0_1.length c0_1)] 52 (0, 0))) ∧ As (w'.heap[gb324]? = some (.cells #[(.slice (some ad326) l2_0.length c2_0), (.slice A2_1 l2_1.length c2_1)] 52 (0, 0))) ∧ As (w'.heap[gb327]? = some (.cells #[.int .i64 ((rd_T64 l0_0 a1).f0), .int .i64 ((rd_T64 l0_0 a1).f1), .string ((rd_T64 l0_0 a1).f2), (.slice A325_3 ((rd_T64 l0_0 a1).f3).length c325_3)] 64 (0, 0))) ∧ As (w'.heap[gb328]? = some (.cells #[.int .i64 ((rd_T64 l2_0 a3).f0), .int .i64 ((rd_T64 l2_0 a3).f1), .string ((rd_T64 l2_0 a3).f2), (.slice A326_3 ((rd_T64 l2_0 a3).f3).length c326_3)] 64 (0, 0))) ∧ As (Below w.heap.size w w'))
   case atStart => exact ⟨(0), (by first | rfl | (simp; done) | (simp [*]; done)), H', ⟨Nat.le_refl _⟩, ⟨bx BK323.out⟩, ⟨bx BK324.out⟩, ⟨bx BK327.out⟩, ⟨bx BK328.out⟩, ⟨be w⟩⟩
   case round =>
    clear H'
    (try clear c5); (try clear c5b0); (try clear c6); (try clear c6b0); (try clear c7); (try clear c7b0); (try clear c8); (try clear c8b0); (try clear c55); (try clear hcz59_0); (try clear hcz59_1); (try clear hcz59_2); (try clear hcz59_3); (try clear hfz59_0); (try clear hfz59_1); (try clear hfz59_2); (try clear hfz59_3); (try clear hx325_0); (try clear hx325_1); (try clear hx325_2); (try clear hx325_3); (try clear hx326_0); (try clear hx326_1); (try clear hx326_2); (try clear hx326_3); (try clear p325); (try clear p326); (try clear q325); (try clear q326)
    obtain ⟨x53_2, rfl, HA, HK2, BK323, BK324, BK327, BK328, HB⟩ := hrel
    cases gk with
    | zero => exact absurd HA.out (by simp [impl_sameTree.l0])
    | succ k2 =>
     have H := HA.out
     clear HA
     simp only [impl_sameTree.l0] at H
     by_cases c60 : x53_2 < (((rd_T64 l0_0 a1).f3).length : Int)
     rotate_left
     ·
      rw [if_neg c60] at H
      have c60b0 : decide (x53_2 < (((rd_T64 l0_0 a1).f3).length : Int)) = false := decide_eq_false c60
      clear c60
      obtain rfl := Option.some.inj H
      go_wp2
      go_ret
      exact ⟨by first | rfl | (simp [errW_none, errW_some] <;> rfl) | (simp [*, errW_none, errW_some] <;> rfl), be w⟩
     rw [if_pos c60] at H
     have c60b0 : decide (x53_2 < (((rd_T64 l0_0 a1).f3).length : Int)) = true := decide_eq_true c60
     clear c60
     by_cases c61 : 0 ≤ x53_2
     rotate_left
     ·
      rw [if_neg c61] at H
      exact absurd H (by simp)
     rw [if_pos c61] at H
     have c61b0 : decide (0 ≤ x53_2) = true := decide_eq_true c61
     clear c61
     by_cases c62 : x53_2 < (((rd_T64 l0_0 a1).f3).length : Int)
     rotate_left
     ·
      rw [if_neg c62] at H
      exact absurd H (by simp)
     rw [if_pos c62] at H
     have c62b0 : decide (x53_2 < (((rd_T64 l0_0 a1).f3).length : Int)) = true := decide_eq_true c62
     clear c62
     by_cases c63 : x53_2 < (((rd_T64 l2_0 a3).f3).length : Int)
     rotate_left
     ·
      rw [if_neg c63] at H
      exact absurd H (by simp)
     rw [if_pos c63] at H
     have c63b0 : decide (x53_2 < (((rd_T64 l2_0 a3).f3).length : Int)) = true := decide_eq_true c63
     clear c63
     obtain ⟨t331, A640, H⟩ := Option.bind_eq_some_iff.mp H
     try dsimp only at H
     have A64 := As.mk A640
     clear A640
     by_cases c65 : t331 = true
     rotate_left
     ·
      replace c65 := Bool.eq_false_iff.mpr c65
      subst c65
      rw [if_neg (show ¬ (false = true) by decide)] at H
      obtain rfl := Option.some.inj H
      try go_wp2
      replace BK323 := As.mk (blk_drew BK323.out)
      replace BK324 := As.mk (blk_drew BK324.out)
      replace BK327 := As.mk (blk_drew BK327.out)
      replace BK328 := As.mk (blk_drew BK328.out)
      replace HB := As.mk (below_drew1 HB.out)
      have p329 : 0 ≤ (x53_2 : Int) := of_decide_eq_true (by first | (with_reducible assumption) | assumption)
      have q329 : x53_2 < (((rd_T64 l0_0 a1).f3).length : Int) := of_decide_eq_true (by first | (with_reducible assumption) | assumption)
      obtain ⟨ad329, e329, hx329_0⟩ := Kd.at_int HR325_3.out x53_2 p329 q329
      have hw329_0 := hx329_0
      cases e329
      replace hx329_0 := ce HB.out hx329_0
      replace p329 := eq_true p329
      replace q329 := eq_true q329
      have p330 : 0 ≤ (x53_2 : Int) := of_decide_eq_true (by first | (with_reducible assumption) | assumption)
      have q330 : x53_2 < (((rd_T64 l2_0 a3).f3).length : Int) := of_decide_eq_true (by first | (with_reducible assumption) | assumption)
      obtain ⟨ad330, e330, hx330_0⟩ := Kd.at_int HR326_3.out x53_2 p330 q330
      have hw330_0 := hx330_0
      cases e330
      replace hx330_0 := ce HB.out hx330_0
      replace p330 := eq_true p330
      replace q330 := eq_true q330
      refine start_ (n := 14) (S := fun w' => w'.cell? ⟨gb323, 0, none⟩ = some (.slice (some ad325) l0_0.length c0_0) ∧ w'.cell? ⟨gb323, 1, none⟩ = some (.slice A0_1 l0_1.length c0_1) ∧ w'.cell? ⟨gb327, 0, none⟩ = some (.int .i64 ((rd_T64 l0_0 a1).f0)) ∧ w'.cell? ⟨gb327, 1, none⟩ = some (.int .i64 ((rd_T64 l0_0 a1).f1)) ∧ w'.cell? ⟨gb327, 2, none⟩ = some (.string ((rd_T64 l0_0 a1).f2)) ∧ w'.cell? ⟨gb327, 3, none⟩ = some (.slice (some ad329) ((rd_T64 l0_0 a1).f3).length c325_3) ∧ w'.cell? ⟨gb324, 0, none⟩ = some (.slice (some ad326) l2_0.length c2_0) ∧ w'.cell? ⟨gb324, 1, none⟩ = some (.slice A2_1 l2_1.length c2_1) ∧ w'.cell? ⟨gb328, 0, none⟩ = some (.int .i64 ((rd_T64 l2_0 a3).f0)) ∧ w'.cell? ⟨gb328, 1, none⟩ = some (.int .i64 ((rd_T64 l2_0 a3).f1)) ∧ w'.cell? ⟨gb328, 2, none⟩ = some (.string ((rd_T64 l2_0 a3).f2)) ∧ w'.cell? ⟨gb328, 3, none⟩ = some (.slice (some ad330) ((rd_T64 l2_0 a3).f3).length c326_3) ∧ w'.cell? (ad329.add (x53_2).toNat) = some (.int .i64 (rd ((rd_T64 l0_0 a1).f3) x53_2)) ∧ w'.cell? (ad330.add (x53_2).toNat) = some (.int .i64 (rd ((rd_T64 l2_0 a3).f3) x53_2))) (ds := []) #[O, O, O, O, O, O, O, O, O, O, O, O, O, O] (by kernel_rfl) rfl rfl ⟨(blk_cell BK323.out 0).trans rfl, (blk_cell BK323.out 1).trans rfl, (blk_cell BK327.out 0).trans rfl, (blk_cell BK327.out 1).trans rfl, (blk_cell BK327.out 2).trans rfl, (blk_cell BK327.out 3).trans rfl, (blk_cell BK324.out 0).trans rfl, (blk_cell BK324.out 1).trans rfl, (blk_cell BK328.out 0).trans rfl, (blk_cell BK328.out 1).trans rfl, (blk_cell BK328.out 2).trans rfl, (blk_cell BK328.out 3).trans rfl, (ce HB.out hw329_0 :), (ce HB.out hw330_0 :)⟩ (fun hHeld => ?_); refine with_tabW impl_sameTree.tab7 impl_sameTree.bits7 (fun HT_ HW_ => ?_)
      generalize wr.drew = w68 at BK323 BK324 BK327 BK328 HB hx329_0 hx330_0 hHeld ⊢
      refine pure_ (i := 1) (N := some 57) (v := ?_) (a' := ?_) #[O, I, O, O, O, O, O, O, O, O, O, O, O, O] rfl rfl (any_of HT_.out (by kernel_rfl)) (fun _ _ _ h => h) (Or.inl ⟨by rfl, ?_⟩) ?_ ?_
      rotate_left
      ·
       intro w'
       go_simp
       with_reducible rfl
      rotate_left
      ·
       simp only [pk, i64_w, i32_w]
       rfl
      refine pure_ (i := 3) (N := some 59) (v := ?_) (a' := ?_) #[O, I, O, I, O, O, O, O, O, O, O, O, O, O] rfl rfl (any_of HT_.out (by kernel_rfl)) (fun _ _ _ h => h) (Or.inl ⟨by rfl, ?_⟩) ?_ ?_
      rotate_left
      ·
       intro w'
       go_simp
       with_reducible rfl
      rotate_left
      ·
       simp only [pk, i64_w, i32_w]
       rfl
      refine pure_ (i := 7) (N := some 63) (v := ?_) (a' := ?_) #[O, I, O, I, O, O, O, I, O, O, O, O, O, O] rfl rfl (any_of HT_.out (by kernel_rfl)) (fun _ _ _ h => h) (Or.inl ⟨by rfl, ?_⟩) ?_ ?_
      rotate_left
      ·
       intro w'
       go_simp
       with_reducible rfl
      rotate_left
      ·
       simp only [pk, i64_w, i32_w]
       rfl
      refine pure_ (i := 9) (N := some 65) (v := ?_) (a' := ?_) #[O, I, O, I, O, O, O, I, O, I, O, O, O, O] rfl rfl (any_of HT_.out (by kernel_rfl)) (fun _ _ _ h => h) (Or.inl ⟨by rfl, ?_⟩) ?_ ?_
      rotate_left
      ·
       intro w'
       go_simp
       with_reducible rfl
      rotate_left
      ·
       simp only [pk, i64_w, i32_w]
       rfl
      refine take_ (i := 0) (N := some 56) (v := ?_) (a' := ?_) #[I, I, O, I, O, O, O, I, O, I, O, O, O, O] rfl rfl (take_ofW HT_.out HW_.out (by kernel_rfl)) (fun _ _ _ h => h) (Or.inl ⟨by rfl, ?_⟩) hHeld ?_ ?_
      rotate_left
      ·
       rintro w' ⟨s0, s1, s2, s3, s4, s5, s6, s7, s8, s9, s10, s11, s12, s13⟩
       go_simp
       with_reducible rfl
      rotate_left
      ·
       simp only [pk, i64_w, i32_w]
       rfl
      refine take_ (i := 2) (N := some 58) (v := ?_) (a' := ?_) #[I, I, I, I, O, O, O, I, O, I, O, O, O, O] rfl rfl (take_ofW HT_.out HW_.out (by kernel_rfl)) (fun _ _ _ h => h) (Or.inl ⟨by rfl, ?_⟩) hHeld ?_ ?_
      rotate_left
      ·
       rintro w' ⟨s0, s1, s2, s3, s4, s5, s6, s7, s8, s9, s10, s11, s12, s13⟩
       go_simp
       with_reducible rfl
      rotate_left
      ·
       simp only [pk, i64_w, i32_w]
       rfl
      refine pure_ (i := 4) (N := some 60) (v := ?_) (a' := ?_) #[I, I, I, I, I, O, O, I, O, I, O, O, O, O] rfl rfl (any_of HT_.out (by kernel_rfl)) (fun _ _ _ h => h) (Or.inl ⟨by rfl, ?_⟩) ?_ ?_
      rotate_left
      ·
       intro w'
       go_simp
       with_reducible rfl
      rotate_left
      ·
       simp only [pk, i64_w, i32_w]
       rfl
      refine take_ (i := 5) (N := some 61) (v := ?_) (a' := ?_) #[I, I, I, I, I, I, O, I, O, I, O, O, O, O] rfl rfl (take_ofW HT_.out HW_.out (by kernel_rfl)) (fun _ _ _ h => h) (Or.inl ⟨by rfl, ?_⟩) hHeld ?_ ?_
      rotate_left
      ·
       rintro w' ⟨s0, s1, s2, s3, s4, s5, s6, s7, s8, s9, s10, s11, s12, s13⟩
       go_simp
       with_reducible rfl
      rotate_left
      ·
       simp only [pk, i64_w, i32_w]
       rfl
      refine take_ (i := 6) (N := some 62) (v := ?_) (a' := ?_) #[I, I, I, I, I, I, I, I, O, I, O, O, O, O] rfl rfl (take_ofW HT_.out HW_.out (by kernel_rfl)) (fun _ _ _ h => h) (Or.inl ⟨by rfl, ?_⟩) hHeld ?_ ?_
      rotate_left
      ·
       rintro w' ⟨s0, s1, s2, s3, s4, s5, s6, s7, s8, s9, s10, s11, s12, s13⟩
       go_simp
       with_reducible rfl
      rotate_left
      ·
       simp only [pk, i64_w, i32_w]
       rfl
      refine take_ (i := 8) (N := some 64) (v := ?_) (a' := ?_) #[I, I, I, I, I, I, I, I, I, I, O, O, O, O] rfl rfl (take_ofW HT_.out HW_.out (by kernel_rfl)) (fun _ _ _ h => h) (Or.inl ⟨by rfl, ?_⟩) hHeld ?_ ?_
      rotate_left
      ·
       rintro w' ⟨s0, s1, s2, s3, s4, s5, s6, s7, s8, s9, s10, s11, s12, s13⟩
       go_simp
       with_reducible rfl
      rotate_left
      ·
       simp only [pk, i64_w, i32_w]
       rfl
      refine pure_ (i := 10) (N := some 66) (v := ?_) (a' := ?_) #[I, I, I, I, I, I, I, I, I, I, I, O, O, O] rfl rfl (any_of HT_.out (by kernel_rfl)) (fun _ _ _ h => h) (Or.inl ⟨by rfl, ?_⟩) ?_ ?_
      rotate_left
      ·
       intro w'
       go_simp
       with_reducible rfl
      rotate_left
      ·
       simp only [pk, i64_w, i32_w]
       rfl
      refine take_ (i := 11) (N := some 67) (v := ?_) (a' := ?_) #[I, I, I, I, I, I, I, I, I, I, I, I, O, O] rfl rfl (take_ofW HT_.out HW_.out (by kernel_rfl)) (fun _ _ _ h => h) (Or.inl ⟨by rfl, ?_⟩) hHeld ?_ ?_
      rotate_left
      ·
       rintro w' ⟨s0, s1, s2, s3, s4, s5, s6, s7, s8, s9, s10, s11, s12, s13⟩
       go_simp
       with_reducible rfl
      rotate_left
      ·
       simp only [pk, i64_w, i32_w]
       rfl
      refine one_ (i := 12) (N := some 68) #[I, I, I, I, I, I, I, I, I, I, I, I, I, O] rfl rfl (one_of HT_.out (by kernel_rfl)) (by decide) (fun K hK => ?_)
      refine goes_ Tryd.func70 (by kernel_rfl) rfl #[.agg #[.slice (some ad325) l0_0.length c0_0, .slice A0_1 l0_1.length c0_1], .int .i64 (rd ((rd_T64 l0_0 a1).f3) x53_2), .agg #[.slice (some ad326) l2_0.length c2_0, .slice A2_1 l2_1.length c2_1], .int .i64 (rd ((rd_T64 l2_0 a3).f3) x53_2)] (by rfl) rfl rfl (by (try simp only [lm]); first | done | rfl | (simp only [List.length_drop, List.length_take]; rfl)) ?_
      with_reducible refine (ih k2 (by have := HJ8.out; have := HK2.out; omega) _ _ l0_0 _ _ l0_1 (rd ((rd_T64 l0_0 a1).f3) x53_2) _ _ l2_0 _ _ l2_1 (rd ((rd_T64 l2_0 a3).f3) x53_2) false _ ?side1 ?side2 ?side3 ?side4 ?side5 ?side6 ?side7 ?side8 A64.out).mono ?_
      (case side1 => exact Kd.C_below HR0_0.out (be w))
      (case side2 => exact HC0_0.out)
      (case side3 => exact Kd.C_below HR0_1.out (be w))
      (case side4 => exact HC0_1.out)
      (case side5 => exact Kd.C_below HR2_0.out (be w))
      (case side6 => exact HC2_0.out)
      (case side7 => exact Kd.C_below HR2_1.out (be w))
      (case side8 => exact HC2_1.out)
      rintro e w69 ⟨rfl, hb⟩
      refine ⟨_, rfl, ?_⟩
      replace BK323 := As.mk (blk_below (bx BK323.out) hb)
      replace BK324 := As.mk (blk_below (bx BK324.out) hb)
      replace BK327 := As.mk (blk_below (bx BK327.out) hb)
      replace BK328 := As.mk (blk_below (bx BK328.out) hb)
      replace HB := As.mk (below_step (be w) hb)
      (try clear hb)
      (try clear hb2)
      (try clear hk)
      (try clear hi)
      refine hK.out _ _ ⟨(blk_cell BK323.out 0).trans rfl, (blk_cell BK323.out 1).trans rfl, (blk_cell BK327.out 0).trans rfl, (blk_cell BK327.out 1).trans rfl, (blk_cell BK327.out 2).trans rfl, (blk_cell BK327.out 3).trans rfl, (blk_cell BK324.out 0).trans rfl, (blk_cell BK324.out 1).trans rfl, (blk_cell BK328.out 0).trans rfl, (blk_cell BK328.out 1).trans rfl, (blk_cell BK328.out 2).trans rfl, (blk_cell BK328.out 3).trans rfl, (ce HB.out hw329_0 :), (ce HB.out hw330_0 :)⟩ (fun hHeld => ?_)
      clear hK K
      refine norm_ (a' := ?_) ?_ ?_
      rotate_left
      ·
       show Act.put _ (some 68) _ = _
       simp only [pk, i64_w, i32_w]
       rfl
      refine pure_ (i := 13) (N := some 69) (v := ?_) (a' := ?_) #[I, I, I, I, I, I, I, I, I, I, I, I, I, I] rfl rfl (any_of HT_.out (by kernel_rfl)) (fun _ _ _ h => h) (Or.inl ⟨by rfl, ?_⟩) ?_ ?_
      rotate_left
      ·
       intro w'
       go_simp
       with_reducible rfl
      rotate_left
      ·
       simp only [pk, i64_w, i32_w]
       rfl
      refine done_ (done_of HT_.out (by kernel_rfl)) ?_
      try go_wp2
      go_ret
      exact ⟨by first | rfl | (simp [errW_none, errW_some] <;> rfl) | (simp [*, errW_none, errW_some] <;> rfl), be w⟩
     subst c65
     rw [if_pos rfl] at H
     have H' := As.mk H
     clear H
     try go_wp2
     replace BK323 := As.mk (blk_drew BK323.out)
     replace BK324 := As.mk (blk_drew BK324.out)
     replace BK327 := As.mk (blk_drew BK327.out)
     replace BK328 := As.mk (blk_drew BK328.out)
     replace HB := As.mk (below_drew1 HB.out)
     have p329 : 0 ≤ (x53_2 : Int) := of_decide_eq_true (by first | (with_reducible assumption) | assumption)
     have q329 : x53_2 < (((rd_T64 l0_0 a1).f3).length : Int) := of_decide_eq_true (by first | (with_reducible assumption) | assumption)
     obtain ⟨ad329, e329, hx329_0⟩ := Kd.at_int HR325_3.out x53_2 p329 q329
     have hw329_0 := hx329_0
     cases e329
     replace hx329_0 := ce HB.out hx329_0
     replace p329 := eq_true p329
     replace q329 := eq_true q329
     have p330 : 0 ≤ (x53_2 : Int) := of_decide_eq_true (by first | (with_reducible assumption) | assumption)
     have q330 : x53_2 < (((rd_T64 l2_0 a3).f3).length : Int) := of_decide_eq_true (by first | (with_reducible assumption) | assumption)
     obtain ⟨ad330, e330, hx330_0⟩ := Kd.at_int HR326_3.out x53_2 p330 q330
     have hw330_0 := hx330_0
     cases e330
     replace hx330_0 := ce HB.out hx330_0
     replace p330 := eq_true p330
     replace q330 := eq_true q330
     refine start_ (n := 14) (S := fun w' => w'.cell? ⟨gb323, 0, none⟩ = some (.slice (some ad325) l0_0.length c0_0) ∧ w'.cell? ⟨gb323, 1, none⟩ = some (.slice A0_1 l0_1.length c0_1) ∧ w'.cell? ⟨gb327, 0, none⟩ = some (.int .i64 ((rd_T64 l0_0 a1).f0)) ∧ w'.cell? ⟨gb327, 1, none⟩ = some (.int .i64 ((rd_T64 l0_0 a1).f1)) ∧ w'.cell? ⟨gb327, 2, none⟩ = some (.string ((rd_T64 l0_0 a1).f2)) ∧ w'.cell? ⟨gb327, 3, none⟩ = some (.slice (some ad329) ((rd_T64 l0_0 a1).f3).length c325_3) ∧ w'.cell? ⟨gb324, 0, none⟩ = some (.slice (some ad326) l2_0.length c2_0) ∧ w'.cell? ⟨gb324, 1, none⟩ = some (.slice A2_1 l2_1.length c2_1) ∧ w'.cell? ⟨gb328, 0, none⟩ = some (.int .i64 ((rd_T64 l2_0 a3).f0)) ∧ w'.cell? ⟨gb328, 1, none⟩ = some (.int .i64 ((rd_T64 l2_0 a3).f1)) ∧ w'.cell? ⟨gb328, 2, none⟩ = some (.string ((rd_T64 l2_0 a3).f2)) ∧ w'.cell? ⟨gb328, 3, none⟩ = some (.slice (some ad330) ((rd_T64 l2_0 a3).f3).length c326_3) ∧ w'.cell? (ad329.add (x53_2).toNat) = some (.int .i64 (rd ((rd_T64 l0_0 a1).f3) x53_2)) ∧ w'.cell? (ad330.add (x53_2).toNat) = some (.int .i64 (rd ((rd_T64 l2_0 a3).f3) x53_2))) (ds := []) #[O, O, O, O, O, O, O, O, O, O, O, O, O, O] (by kernel_rfl) rfl rfl ⟨(blk_cell BK323.out 0).trans rfl, (blk_cell BK323.out 1).trans rfl, (blk_cell BK327.out 0).trans rfl, (blk_cell BK327.out 1).trans rfl, (blk_cell BK327.out 2).trans rfl, (blk_cell BK327.out 3).trans rfl, (blk_cell BK324.out 0).trans rfl, (blk_cell BK324.out 1).trans rfl, (blk_cell BK328.out 0).trans rfl, (blk_cell BK328.out 1).trans rfl, (blk_cell BK328.out 2).trans rfl, (blk_cell BK328.out 3).trans rfl, (ce HB.out hw329_0 :), (ce HB.out hw330_0 :)⟩ (fun hHeld => ?_); refine with_tabW impl_sameTree.tab7 impl_sameTree.bits7 (fun HT_ HW_ => ?_)
     generalize wr.drew = w66 at BK323 BK324 BK327 BK328 HB hx329_0 hx330_0 hHeld ⊢
     refine pure_ (i := 1) (N := some 57) (v := ?_) (a' := ?_) #[O, I, O, O, O, O, O, O, O, O, O, O, O, O] rfl rfl (any_of HT_.out (by kernel_rfl)) (fun _ _ _ h => h) (Or.inl ⟨by rfl, ?_⟩) ?_ ?_
     rotate_left
     ·
      intro w'
      go_simp
      with_reducible rfl
     rotate_left
     ·
      simp only [pk, i64_w, i32_w]
      rfl
     refine pure_ (i := 3) (N := some 59) (v := ?_) (a' := ?_) #[O, I, O, I, O, O, O, O, O, O, O, O, O, O] rfl rfl (any_of HT_.out (by kernel_rfl)) (fun _ _ _ h => h) (Or.inl ⟨by rfl, ?_⟩) ?_ ?_
     rotate_left
     ·
      intro w'
      go_simp
      with_reducible rfl
     rotate_left
     ·
      simp only [pk, i64_w, i32_w]
      rfl
     refine pure_ (i := 7) (N := some 63) (v := ?_) (a' := ?_) #[O, I, O, I, O, O, O, I, O, O, O, O, O, O] rfl rfl (any_of HT_.out (by kernel_rfl)) (fun _ _ _ h => h) (Or.inl ⟨by rfl, ?_⟩) ?_ ?_
     rotate_left
     ·
      intro w'
      go_simp
      with_reducible rfl
     rotate_left
     ·
      simp only [pk, i64_w, i32_w]
      rfl
     refine pure_ (i := 9) (N := some 65) (v := ?_) (a' := ?_) #[O, I, O, I, O, O, O, I, O, I, O, O, O, O] rfl rfl (any_of HT_.out (by kernel_rfl)) (fun _ _ _ h => h) (Or.inl ⟨by rfl, ?_⟩) ?_ ?_
     rotate_left
     ·
      intro w'
      go_simp
      with_reducible rfl
     rotate_left
     ·
      simp only [pk, i64_w, i32_w]
      rfl
     refine take_ (i := 0) (N := some 56) (v := ?_) (a' := ?_) #[I, I, O, I, O, O, O, I, O, I, O, O, O, O] rfl rfl (take_ofW HT_.out HW_.out (by kernel_rfl)) (fun _ _ _ h => h) (Or.inl ⟨by rfl, ?_⟩) hHeld ?_ ?_
     rotate_left
     ·
      rintro w' ⟨s0, s1, s2, s3, s4, s5, s6, s7, s8, s9, s10, s11, s12, s13⟩
      go_simp
      with_reducible rfl
     rotate_left
     ·
      simp only [pk, i64_w, i32_w]
      rfl
     refine take_ (i := 2) (N := some 58) (v := ?_) (a' := ?_) #[I, I, I, I, O, O, O, I, O, I, O, O, O, O] rfl rfl (take_ofW HT_.out HW_.out (by kernel_rfl)) (fun _ _ _ h => h) (Or.inl ⟨by rfl, ?_⟩) hHeld ?_ ?_
     rotate_left
     ·
      rintro w' ⟨s0, s1, s2, s3, s4, s5, s6, s7, s8, s9, s10, s11, s12, s13⟩
      go_simp
      with_reducible rfl
     rotate_left
     ·
      simp only [pk, i64_w, i32_w]
      rfl
     refine pure_ (i := 4) (N := some 60) (v := ?_) (a' := ?_) #[I, I, I, I, I, O, O, I, O, I, O, O, O, O] rfl rfl (any_of HT_.out (by kernel_rfl)) (fun _ _ _ h => h) (Or.inl ⟨by rfl, ?_⟩) ?_ ?_
     rotate_left
     ·
      intro w'
      go_simp
      with_reducible rfl
     rotate_left
     ·
      simp only [pk, i64_w, i32_w]
      rfl
     refine take_ (i := 5) (N := some 61) (v := ?_) (a' := ?_) #[I, I, I, I, I, I, O, I, O, I, O, O, O, O] rfl rfl (take_ofW HT_.out HW_.out (by kernel_rfl)) (fun _ _ _ h => h) (Or.inl ⟨by rfl, ?_⟩) hHeld ?_ ?_
     rotate_left
     ·
      rintro w' ⟨s0, s1, s2, s3, s4, s5, s6, s7, s8, s9, s10, s11, s12, s13⟩
      go_simp
      with_reducible rfl
     rotate_left
     ·
      simp only [pk, i64_w, i32_w]
      rfl
     refine take_ (i := 6) (N := some 62) (v := ?_) (a' := ?_) #[I, I, I, I, I, I, I, I, O, I, O, O, O, O] rfl rfl (take_ofW HT_.out HW_.out (by kernel_rfl)) (fun _ _ _ h => h) (Or.inl ⟨by rfl, ?_⟩) hHeld ?_ ?_
     rotate_left
     ·
      rintro w' ⟨s0, s1, s2, s3, s4, s5, s6, s7, s8, s9, s10, s11, s12, s13⟩
      go_simp
      with_reducible rfl
     rotate_left
     ·
      simp only [pk, i64_w, i32_w]
      rfl
     refine take_ (i := 8) (N := some 64) (v := ?_) (a' := ?_) #[I, I, I, I, I, I, I, I, I, I, O, O, O, O] rfl rfl (take_ofW HT_.out HW_.out (by kernel_rfl)) (fun _ _ _ h => h) (Or.inl ⟨by rfl, ?_⟩) hHeld ?_ ?_
     rotate_left
     ·
      rintro w' ⟨s0, s1, s2, s3, s4, s5, s6, s7, s8, s9, s10, s11, s12, s13⟩
      go_simp
      with_reducible rfl
     rotate_left
     ·
      simp only [pk, i64_w, i32_w]
      rfl
     refine pure_ (i := 10) (N := some 66) (v := ?_) (a' := ?_) #[I, I, I, I, I, I, I, I, I, I, I, O, O, O] rfl rfl (any_of HT_.out (by kernel_rfl)) (fun _ _ _ h => h) (Or.inl ⟨by rfl, ?_⟩) ?_ ?_
     rotate_left
     ·
      intro w'
      go_simp
      with_reducible rfl
     rotate_left
     ·
      simp only [pk, i64_w, i32_w]
      rfl
     refine take_ (i := 11) (N := some 67) (v := ?_) (a' := ?_) #[I, I, I, I, I, I, I, I, I, I, I, I, O, O] rfl rfl (take_ofW HT_.out HW_.out (by kernel_rfl)) (fun _ _ _ h => h) (Or.inl ⟨by rfl, ?_⟩) hHeld ?_ ?_
     rotate_left
     ·
      rintro w' ⟨s0, s1, s2, s3, s4, s5, s6, s7, s8, s9, s10, s11, s12, s13⟩
      go_simp
      with_reducible rfl
     rotate_left
     ·
      simp only [pk, i64_w, i32_w]
      rfl
     refine one_ (i := 12) (N := some 68) #[I, I, I, I, I, I, I, I, I, I, I, I, I, O] rfl rfl (one_of HT_.out (by kernel_rfl)) (by decide) (fun K hK => ?_)
     refine goes_ Tryd.func70 (by kernel_rfl) rfl #[.agg #[.slice (some ad325) l0_0.length c0_0, .slice A0_1 l0_1.length c0_1], .int .i64 (rd ((rd_T64 l0_0 a1).f3) x53_2), .agg #[.slice (some ad326) l2_0.length c2_0, .slice A2_1 l2_1.length c2_1], .int .i64 (rd ((rd_T64 l2_0 a3).f3) x53_2)] (by rfl) rfl rfl (by (try simp only [lm]); first | done | rfl | (simp only [List.length_drop, List.length_take]; rfl)) ?_
     with_reducible refine (ih k2 (by have := HJ8.out; have := HK2.out; omega) _ _ l0_0 _ _ l0_1 (rd ((rd_T64 l0_0 a1).f3) x53_2) _ _ l2_0 _ _ l2_1 (rd ((rd_T64 l2_0 a3).f3) x53_2) true _ ?side1 ?side2 ?side3 ?side4 ?side5 ?side6 ?side7 ?side8 A64.out).mono ?_
     (case side1 => exact Kd.C_below HR0_0.out (be w))
     (case side2 => exact HC0_0.out)
     (case side3 => exact Kd.C_below HR0_1.out (be w))
     (case side4 => exact HC0_1.out)
     (case side5 => exact Kd.C_below HR2_0.out (be w))
     (case side6 => exact HC2_0.out)
     (case side7 => exact Kd.C_below HR2_1.out (be w))
     (case side8 => exact HC2_1.out)
     rintro e w67 ⟨rfl, hb⟩
     refine ⟨_, rfl, ?_⟩
     replace BK323 := As.mk (blk_below (bx BK323.out) hb)
     replace BK324 := As.mk (blk_below (bx BK324.out) hb)
     replace BK327 := As.mk (blk_below (bx BK327.out) hb)
     replace BK328 := As.mk (blk_below (bx BK328.out) hb)
     replace HB := As.mk (below_step (be w) hb)
     (try clear hb)
     (try clear hb2)
     (try clear hk)
     (try clear hi)
     refine hK.out _ _ ⟨(blk_cell BK323.out 0).trans rfl, (blk_cell BK323.out 1).trans rfl, (blk_cell BK327.out 0).trans rfl, (blk_cell BK327.out 1).trans rfl, (blk_cell BK327.out 2).trans rfl, (blk_cell BK327.out 3).trans rfl, (blk_cell BK324.out 0).trans rfl, (blk_cell BK324.out 1).trans rfl, (blk_cell BK328.out 0).trans rfl, (blk_cell BK328.out 1).trans rfl, (blk_cell BK328.out 2).trans rfl, (blk_cell BK328.out 3).trans rfl, (ce HB.out hw329_0 :), (ce HB.out hw330_0 :)⟩ (fun hHeld => ?_)
     clear hK K
     refine norm_ (a' := ?_) ?_ ?_
     rotate_left
     ·
      show Act.put _ (some 68) _ = _
      simp only [pk, i64_w, i32_w]
      rfl
     refine pure_ (i := 13) (N := some 69) (v := ?_) (a' := ?_) #[I, I, I, I, I, I, I, I, I, I, I, I, I, I] rfl rfl (any_of HT_.out (by kernel_rfl)) (fun _ _ _ h => h) (Or.inl ⟨by rfl, ?_⟩) ?_ ?_
     rotate_left
     ·
      intro w'
      go_simp
      with_reducible rfl
     rotate_left
     ·
      simp only [pk, i64_w, i32_w]
      rfl
     refine done_ (done_of HT_.out (by kernel_rfl)) ?_
     try go_wp2
     go_roundg k2
     case measure => have := HJ8.out; have := HK2.out; omega
     case rel => exact ⟨(wrap64 (x53_2 + 1)), (by first | rfl | (simp; done) | (simp [*]; done)), H', ⟨by have := HJ8.out; have := HK2.out; omega⟩, ⟨bx BK323.out⟩, ⟨bx BK324.out⟩, ⟨bx BK327.out⟩, ⟨bx BK328.out⟩, ⟨be w⟩⟩
end Go.Proofs.YtmdpggibcjkfoaaDoor.PFnExactSameProgram
