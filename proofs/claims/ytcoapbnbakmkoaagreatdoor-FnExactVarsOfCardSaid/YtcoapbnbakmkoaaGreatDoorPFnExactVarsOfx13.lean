/- Written by a program of this session (a turned copy of the kit's print): a contract for each Go function. No condition beside those in each statement. -/
import Derived.Test.YtcoapbnbakmkoaaGreatDoorPFnExactVarsOfx0
import Derived.Test.YtcoapbnbakmkoaaGreatDoorPFnExactVarsOfx12
import Derived.Test.YtcoapbnbakmkoaaGreatDoorPFnExactVarsOfx1
import Derived.Test.YtcoapbnbakmkoaaGreatDoorPFnExactVarsOfx5
import Derived.Test.YtcoapbnbakmkoaaGreatDoorPFnExactVarsOfx6
import Derived.Test.YtcoapbnbakmkoaaGreatDoorPFnExactVarsOfx9
import Derived.Test.YtcoapbnbakmkoaaGreatDoorPFnExactVarsOfx10
import Derived.Test.YtcoapbnbakmkoaaGreatDoorPFnExactVarsOfx11
namespace Go.Proofs.YtcoapbnbakmkoaaGreatDoor.PFnExactVarsOf
open Go.RowKit Go.Proofs.YtcoapbnbakmkoaaGreatDoor.Given Go.Proofs.YtcoapbnbakmkoaaGreatDoorW.PrintWords Go.Proofs.YtcoapbnbakmkoaaGreatDoorW.PrintLast Go.Proofs.YtcoapbnbakmkoaaGreatDoorW.PrintMore
attribute [local go_sem] max2_int min2_int max_two min_two max_three min_three max_four min_four   -- for this text's walks alone
set_option linter.unusedVariables false
set_option linter.unusedSimpArgs false

/-! ### laws_heldVarS: function 17 -/
def laws_heldVarS.l0 : Nat → List (S60) → Int → Int → Option (Int)
 | 0, _, _, _ => none
 | k + 1, x0, x1, x5 => if x5 < (x0.length : Int) then (if 0 ≤ x5 then ((laws_markText.f k x1).bind fun t390 => (if ((rd_T60 x0 x5).f0).toList = t390.toList then (if ((rd_T60 x0 x5).f1) = (wrap64 (x1 + 1)) then (if ((rd_T60 x0 x5).f2) = (wrap64 ((wrap64 (x1 + 1)) + 1)) then (laws_heldVarS.l0 k x0 (wrap64 ((wrap64 ((wrap64 (x1 + 1)) + 1)) + 1)) (wrap64 (x5 + 1))) else (some (-1))) else (some (-1))) else (some (-1)))) else (none)) else (some x1)
def laws_heldVarS.f (k : Nat) (l0 : List (S60)) (a1 : Int) : Option (Int) := laws_heldVarS.l0 k l0 a1 0
theorem laws_heldVarS.mono_l : ∀ k, (∀ y0 y1 y2, LeO (laws_heldVarS.l0 k y0 y1 y2) (laws_heldVarS.l0 (k + 1) y0 y1 y2))
 | 0 => fun _ _ _ r h => by simp [laws_heldVarS.l0] at h
 | k + 1 => by
  have ih0 := laws_heldVarS.mono_l k
  ·
   intro y0 y1 y2
   unfold laws_heldVarS.l0
   with_reducible repeat' first | exact ih0 _ _ _ | exact laws_markText.mono _ _ | exact LeO.refl _ | exact LeO.none _ | refine LeO.ite ?_ ?_ | refine LeO.bind ?_ (fun _ => ?_)
theorem laws_heldVarS.mono : ∀ a0 a1 k, LeO (laws_heldVarS.f k a0 a1) (laws_heldVarS.f (k + 1) a0 a1) := by
 intro a0 a1 k
 have ih0 := laws_heldVarS.mono_l k
 unfold laws_heldVarS.f
 with_reducible repeat' first | exact ih0 _ _ _ | exact laws_markText.mono _ _ | exact LeO.refl _ | exact LeO.none _ | refine LeO.ite ?_ ?_ | refine LeO.bind ?_ (fun _ => ?_)
def laws_heldVarS.T4 : Bool × List (List Nat × List Nat) := (true, [([], []), ([], []), ([0, 1], [0, 1]), ([2], [2]), ([3], [3]), ([], []), ([5], [5]), ([4, 6], [4, 6])])
def laws_heldVarS.B4 : List Nat := [0, 0, 3, 7, 15, 0, 32, 127]
theorem laws_heldVarS.tab4 : rtab .any (opsOf Tryz.f17 4) = laws_heldVarS.T4 := by kernel_rfl
theorem laws_heldVarS.bits4 : waitsOk laws_heldVarS.T4.2 laws_heldVarS.B4 = true := by kernel_rfl
set_option maxHeartbeats 8000000 in
set_option maxRecDepth 100000 in
theorem laws_heldVarS.calls (k : Nat) (A0 : Option Addr) (c0 : Nat) (l0 : List (S60)) (a1 : Int) (r : Int) (w : World) (hr0 : Kd.C k60 w A0 l0.length l0) (hc0 : l0.length ≤ c0) (h : laws_heldVarS.f k l0 a1 = some r) :
  Calls Tryz.prog 17 #[.slice A0 l0.length c0, .int .i64 a1] w fun e w' => e = .returned (.int .i64 r) ∧ Below w.heap.size w w' := by
 have HR0 := As.mk hr0
 have HC0 := As.mk hc0
 clear hr0 hc0
 have HB := As.mk (Below.refl w.heap.size w)
 have H : (laws_heldVarS.l0 k l0 a1 0) = some r := h
 clear h
 have H' := As.mk H
 clear H
 go_enter Tryz.func17, Tryz.ntmps17
 go_wp2
 go_loopg [1, 5] k (fun kq v1 v5 w' => ∃ (x1_1 : Int) (x5_1 : Int), v1 = .int .i64 x1_1 ∧ v5 = .int .i64 x5_1 ∧ As (laws_heldVarS.l0 kq l0 x1_1 x5_1 = some r) ∧ As (kq ≤ k) ∧ As (Below w.heap.size w w'))
 case atStart => exact ⟨(a1), (0), (by first | rfl | (simp; done) | (simp [*]; done)), (by first | rfl | (simp; done) | (simp [*]; done)), H', ⟨Nat.le_refl _⟩, ⟨be w⟩⟩
 case round =>
  clear H'
  obtain ⟨x1_1, x5_1, rfl, rfl, HA, HK1, HB⟩ := hrel
  cases gk with
  | zero => exact absurd HA.out (by simp [laws_heldVarS.l0])
  | succ k1 =>
   have H := HA.out
   clear HA
   simp only [laws_heldVarS.l0] at H
   by_cases c3 : x5_1 < (l0.length : Int)
   rotate_left
   ·
    rw [if_neg c3] at H
    have c3b0 : decide (x5_1 < (l0.length : Int)) = false := decide_eq_false c3
    clear c3
    obtain rfl := Option.some.inj H
    go_wp2
    go_ret
    exact ⟨ez, be w⟩

   rw [if_pos c3] at H
   have c3b0 : decide (x5_1 < (l0.length : Int)) = true := decide_eq_true c3
   clear c3
   by_cases c4 : 0 ≤ x5_1
   rotate_left; · rw [if_neg c4] at H; exact absurd H (by simp)
   rw [if_pos c4] at H
   have c4b0 : decide (0 ≤ x5_1) = true := decide_eq_true c4
   clear c4
   obtain ⟨t390, A50, H⟩ := Option.bind_eq_some_iff.mp H
   try dsimp only at H
   have A5 := As.mk A50
   clear A50
   by_cases c6 : ((rd_T60 l0 x5_1).f0).toList = t390.toList
   rotate_left
   ·
    rw [if_neg c6] at H
    have c6b0 : (((rd_T60 l0 x5_1).f0).toList == t390.toList) = false := beq_eq_false_iff_ne.mpr c6
    have c6b1 : (((rd_T60 l0 x5_1).f0).toList != t390.toList) = true := bne_iff_ne.mpr c6
    obtain rfl := Option.some.inj H
    try go_wp2
    replace HB := As.mk (below_drew1 HB.out)
    have p389 : 0 ≤ (x5_1 : Int) := od
    have q389 : x5_1 < (l0.length : Int) := od
    obtain ⟨ad389, e389, hx389_0, hx389_1, hx389_2⟩ := at_T60 HR0.out x5_1 p389 q389
    have hw389_2 := hx389_2
    have hw389_1 := hx389_1
    have hw389_0 := hx389_0
    cases e389
    replace hx389_0 := ce HB.out hx389_0
    replace hx389_1 := ce HB.out hx389_1
    replace hx389_2 := ce HB.out hx389_2
    replace p389 := eq_true p389
    replace q389 := eq_true q389
    refine start_ (n := 8) (S := fun w' => w'.cell? (ad389.add ((x5_1).toNat * 3)) = some (.string ((rd_T60 l0 x5_1).f0)) ∧ w'.cell? ⟨(ad389.add ((x5_1).toNat * 3)).block, (ad389.add ((x5_1).toNat * 3)).off + 1, none⟩ = some (.int .i64 ((rd_T60 l0 x5_1).f1)) ∧ w'.cell? ⟨(ad389.add ((x5_1).toNat * 3)).block, (ad389.add ((x5_1).toNat * 3)).off + 2, none⟩ = some (.int .i64 ((rd_T60 l0 x5_1).f2))) (ds := []) #[O, O, O, O, O, O, O, O] (by kernel_rfl) rfl rfl ⟨(ce HB.out hw389_0 :), (ce HB.out hw389_1 :), (ce HB.out hw389_2 :)⟩ (fun hHeld => ?_); refine with_tabW laws_heldVarS.tab4 laws_heldVarS.bits4 (fun HT_ HW_ => ?_)
    generalize wr.drew = w15 at HB hx389_0 hx389_1 hx389_2 hHeld ⊢
    refine pure_ (i := 0) (N := some 12) (v := ?_) (a' := ?_) #[I, O, O, O, O, O, O, O] rfl rfl (any_of HT_.out (by kernel_rfl)) (fun _ _ _ h => h) (Or.inl ⟨by rfl, ?_⟩) ?_ ?_
    rotate_left; · intro w'; go_simp; with_reducible rfl
    rotate_left; · simp only [pk, i64_w, i32_w]; rfl
    refine pure_ (i := 1) (N := some 13) (v := ?_) (a' := ?_) #[I, I, O, O, O, O, O, O] rfl rfl (any_of HT_.out (by kernel_rfl)) (fun _ _ _ h => h) (Or.inl ⟨by rfl, ?_⟩) ?_ ?_
    rotate_left; · intro w'; go_simp; with_reducible rfl
    rotate_left; · simp only [pk, i64_w, i32_w]; rfl
    refine pure_ (i := 2) (N := some 14) (v := ?_) (a' := ?_) #[I, I, I, O, O, O, O, O] rfl rfl (any_of HT_.out (by kernel_rfl)) (fun _ _ _ h => h) (Or.inl ⟨by rfl, ?_⟩) ?_ ?_
    rotate_left; · intro w'; go_simp; with_reducible rfl
    rotate_left; · simp only [pk, i64_w, i32_w]; rfl
    refine pure_ (i := 3) (N := some 15) (v := ?_) (a' := ?_) #[I, I, I, I, O, O, O, O] rfl rfl (any_of HT_.out (by kernel_rfl)) (fun _ _ _ h => h) (Or.inl ⟨by rfl, ?_⟩) ?_ ?_
    rotate_left; · intro w'; go_simp; with_reducible rfl
    rotate_left; · simp only [pk, i64_w, i32_w]; rfl
    refine pure_ (i := 5) (N := some 17) (v := ?_) (a' := ?_) #[I, I, I, I, O, I, O, O] rfl rfl (any_of HT_.out (by kernel_rfl)) (fun _ _ _ h => h) (Or.inl ⟨by rfl, ?_⟩) ?_ ?_
    rotate_left; · intro w'; go_simp; with_reducible rfl
    rotate_left; · simp only [pk, i64_w, i32_w]; rfl
    refine take_ (i := 4) (N := some 16) (v := ?_) (a' := ?_) #[I, I, I, I, I, I, O, O] rfl rfl (take_ofW HT_.out HW_.out (by kernel_rfl)) (fun _ _ _ h => h) (Or.inl ⟨by rfl, ?_⟩) hHeld ?_ ?_
    rotate_left; · rintro w' ⟨s0, s1, s2⟩; go_simp; with_reducible rfl
    rotate_left; · simp only [pk, i64_w, i32_w]; rfl
    refine one_ (i := 6) (N := some 18) #[I, I, I, I, I, I, I, O] rfl rfl (one_of HT_.out (by kernel_rfl)) (by decide) (fun K hK => ?_)
    refine goes_ Tryz.func42 (by kernel_rfl) rfl #[.int .i64 x1_1] (by rfl) rfl rfl (by (try simp only [lm]); first | done | rfl | (simp only [List.length_drop, List.length_take]; rfl)) ?_
    with_reducible refine (laws_markText.calls k1 x1_1 t390 _ A5.out).mono ?_
    rintro e w16 ⟨rfl, hb⟩
    refine ⟨_, rfl, ?_⟩
    replace HB := As.mk (below_step (be w) hb)
    (try clear hb)
    (try clear hb2)
    (try clear hk)
    (try clear hi)
    refine hK.out _ _ ⟨(ce HB.out hw389_0 :), (ce HB.out hw389_1 :), (ce HB.out hw389_2 :)⟩ (fun hHeld => ?_)
    clear hK K
    refine norm_ (a' := ?_) ?_ ?_
    rotate_left
    ·
     show Act.put _ (some 18) _ = _
     simp only [pk, i64_w, i32_w]
     rfl
    refine pure_ (i := 7) (N := some 19) (v := ?_) (a' := ?_) #[I, I, I, I, I, I, I, I] rfl rfl (any_of HT_.out (by kernel_rfl)) (fun _ _ _ h => h) (Or.inl ⟨by rfl, ?_⟩) ?_ ?_
    rotate_left; · intro w'; go_simp; with_reducible rfl
    rotate_left; · simp only [pk, i64_w, i32_w]; rfl
    refine done_ (done_of HT_.out (by kernel_rfl)) ?_
    try go_wp2
    go_ret
    exact ⟨ez, be w⟩
   rw [if_pos c6] at H
   have c6b0 : (((rd_T60 l0 x5_1).f0).toList == t390.toList) = true := beq_iff_eq.mpr c6
   have c6b1 : (((rd_T60 l0 x5_1).f0).toList != t390.toList) = false := bne_eq_false_iff_eq.mpr c6
   clear c6
   by_cases c7 : ((rd_T60 l0 x5_1).f1) = (wrap64 (x1_1 + 1))
   rotate_left
   ·
    rw [if_neg c7] at H
    have c7b0 : (((rd_T60 l0 x5_1).f1) == (wrap64 (x1_1 + 1))) = false := beq_eq_false_iff_ne.mpr c7
    have c7b1 : (((rd_T60 l0 x5_1).f1) != (wrap64 (x1_1 + 1))) = true := bne_iff_ne.mpr c7
    obtain rfl := Option.some.inj H
    try go_wp2
    replace HB := As.mk (below_drew1 HB.out)
    have p389 : 0 ≤ (x5_1 : Int) := od
    have q389 : x5_1 < (l0.length : Int) := od
    obtain ⟨ad389, e389, hx389_0, hx389_1, hx389_2⟩ := at_T60 HR0.out x5_1 p389 q389
    have hw389_2 := hx389_2
    have hw389_1 := hx389_1
    have hw389_0 := hx389_0
    cases e389
    replace hx389_0 := ce HB.out hx389_0
    replace hx389_1 := ce HB.out hx389_1
    replace hx389_2 := ce HB.out hx389_2
    replace p389 := eq_true p389
    replace q389 := eq_true q389
    refine start_ (n := 8) (S := fun w' => w'.cell? (ad389.add ((x5_1).toNat * 3)) = some (.string ((rd_T60 l0 x5_1).f0)) ∧ w'.cell? ⟨(ad389.add ((x5_1).toNat * 3)).block, (ad389.add ((x5_1).toNat * 3)).off + 1, none⟩ = some (.int .i64 ((rd_T60 l0 x5_1).f1)) ∧ w'.cell? ⟨(ad389.add ((x5_1).toNat * 3)).block, (ad389.add ((x5_1).toNat * 3)).off + 2, none⟩ = some (.int .i64 ((rd_T60 l0 x5_1).f2))) (ds := []) #[O, O, O, O, O, O, O, O] (by kernel_rfl) rfl rfl ⟨(ce HB.out hw389_0 :), (ce HB.out hw389_1 :), (ce HB.out hw389_2 :)⟩ (fun hHeld => ?_); refine with_tabW laws_heldVarS.tab4 laws_heldVarS.bits4 (fun HT_ HW_ => ?_)
    generalize wr.drew = w13 at HB hx389_0 hx389_1 hx389_2 hHeld ⊢
    refine pure_ (i := 0) (N := some 12) (v := ?_) (a' := ?_) #[I, O, O, O, O, O, O, O] rfl rfl (any_of HT_.out (by kernel_rfl)) (fun _ _ _ h => h) (Or.inl ⟨by rfl, ?_⟩) ?_ ?_
    rotate_left; · intro w'; go_simp; with_reducible rfl
    rotate_left; · simp only [pk, i64_w, i32_w]; rfl
    refine pure_ (i := 1) (N := some 13) (v := ?_) (a' := ?_) #[I, I, O, O, O, O, O, O] rfl rfl (any_of HT_.out (by kernel_rfl)) (fun _ _ _ h => h) (Or.inl ⟨by rfl, ?_⟩) ?_ ?_
    rotate_left; · intro w'; go_simp; with_reducible rfl
    rotate_left; · simp only [pk, i64_w, i32_w]; rfl
    refine pure_ (i := 2) (N := some 14) (v := ?_) (a' := ?_) #[I, I, I, O, O, O, O, O] rfl rfl (any_of HT_.out (by kernel_rfl)) (fun _ _ _ h => h) (Or.inl ⟨by rfl, ?_⟩) ?_ ?_
    rotate_left; · intro w'; go_simp; with_reducible rfl
    rotate_left; · simp only [pk, i64_w, i32_w]; rfl
    refine pure_ (i := 3) (N := some 15) (v := ?_) (a' := ?_) #[I, I, I, I, O, O, O, O] rfl rfl (any_of HT_.out (by kernel_rfl)) (fun _ _ _ h => h) (Or.inl ⟨by rfl, ?_⟩) ?_ ?_
    rotate_left; · intro w'; go_simp; with_reducible rfl
    rotate_left; · simp only [pk, i64_w, i32_w]; rfl
    refine pure_ (i := 5) (N := some 17) (v := ?_) (a' := ?_) #[I, I, I, I, O, I, O, O] rfl rfl (any_of HT_.out (by kernel_rfl)) (fun _ _ _ h => h) (Or.inl ⟨by rfl, ?_⟩) ?_ ?_
    rotate_left; · intro w'; go_simp; with_reducible rfl
    rotate_left; · simp only [pk, i64_w, i32_w]; rfl
    refine take_ (i := 4) (N := some 16) (v := ?_) (a' := ?_) #[I, I, I, I, I, I, O, O] rfl rfl (take_ofW HT_.out HW_.out (by kernel_rfl)) (fun _ _ _ h => h) (Or.inl ⟨by rfl, ?_⟩) hHeld ?_ ?_
    rotate_left; · rintro w' ⟨s0, s1, s2⟩; go_simp; with_reducible rfl
    rotate_left; · simp only [pk, i64_w, i32_w]; rfl
    refine one_ (i := 6) (N := some 18) #[I, I, I, I, I, I, I, O] rfl rfl (one_of HT_.out (by kernel_rfl)) (by decide) (fun K hK => ?_)
    refine goes_ Tryz.func42 (by kernel_rfl) rfl #[.int .i64 x1_1] (by rfl) rfl rfl (by (try simp only [lm]); first | done | rfl | (simp only [List.length_drop, List.length_take]; rfl)) ?_
    with_reducible refine (laws_markText.calls k1 x1_1 t390 _ A5.out).mono ?_
    rintro e w14 ⟨rfl, hb⟩
    refine ⟨_, rfl, ?_⟩
    replace HB := As.mk (below_step (be w) hb)
    (try clear hb)
    (try clear hb2)
    (try clear hk)
    (try clear hi)
    refine hK.out _ _ ⟨(ce HB.out hw389_0 :), (ce HB.out hw389_1 :), (ce HB.out hw389_2 :)⟩ (fun hHeld => ?_)
    clear hK K
    refine norm_ (a' := ?_) ?_ ?_
    rotate_left
    ·
     show Act.put _ (some 18) _ = _
     simp only [pk, i64_w, i32_w]
     rfl
    refine pure_ (i := 7) (N := some 19) (v := ?_) (a' := ?_) #[I, I, I, I, I, I, I, I] rfl rfl (any_of HT_.out (by kernel_rfl)) (fun _ _ _ h => h) (Or.inl ⟨by rfl, ?_⟩) ?_ ?_
    rotate_left; · intro w'; go_simp; with_reducible rfl
    rotate_left; · simp only [pk, i64_w, i32_w]; rfl
    refine done_ (done_of HT_.out (by kernel_rfl)) ?_
    have p391 : 0 ≤ (x5_1 : Int) := od
    have q391 : x5_1 < (l0.length : Int) := od
    obtain ⟨ad391, e391, hx391_0, hx391_1, hx391_2⟩ := at_T60 HR0.out x5_1 p391 q391
    obtain rfl : ad389 = ad391 := (by injection e391)
    replace hx391_0 := ce HB.out hx391_0
    replace hx391_1 := ce HB.out hx391_1
    replace hx391_2 := ce HB.out hx391_2
    replace p391 := eq_true p391
    replace q391 := eq_true q391
    try go_wp2
    go_ret
    exact ⟨ez, be w⟩
   rw [if_pos c7] at H
   have c7b0 : (((rd_T60 l0 x5_1).f1) == (wrap64 (x1_1 + 1))) = true := beq_iff_eq.mpr c7
   have c7b1 : (((rd_T60 l0 x5_1).f1) != (wrap64 (x1_1 + 1))) = false := bne_eq_false_iff_eq.mpr c7
   clear c7
   by_cases c8 : ((rd_T60 l0 x5_1).f2) = (wrap64 ((wrap64 (x1_1 + 1)) + 1))
   rotate_left
   ·
    rw [if_neg c8] at H
    have c8b0 : (((rd_T60 l0 x5_1).f2) == (wrap64 ((wrap64 (x1_1 + 1)) + 1))) = false := beq_eq_false_iff_ne.mpr c8
    have c8b1 : (((rd_T60 l0 x5_1).f2) != (wrap64 ((wrap64 (x1_1 + 1)) + 1))) = true := bne_iff_ne.mpr c8
    obtain rfl := Option.some.inj H
    try go_wp2
    replace HB := As.mk (below_drew1 HB.out)
    have p389 : 0 ≤ (x5_1 : Int) := od
    have q389 : x5_1 < (l0.length : Int) := od
    obtain ⟨ad389, e389, hx389_0, hx389_1, hx389_2⟩ := at_T60 HR0.out x5_1 p389 q389
    have hw389_2 := hx389_2
    have hw389_1 := hx389_1
    have hw389_0 := hx389_0
    cases e389
    replace hx389_0 := ce HB.out hx389_0
    replace hx389_1 := ce HB.out hx389_1
    replace hx389_2 := ce HB.out hx389_2
    replace p389 := eq_true p389
    replace q389 := eq_true q389
    refine start_ (n := 8) (S := fun w' => w'.cell? (ad389.add ((x5_1).toNat * 3)) = some (.string ((rd_T60 l0 x5_1).f0)) ∧ w'.cell? ⟨(ad389.add ((x5_1).toNat * 3)).block, (ad389.add ((x5_1).toNat * 3)).off + 1, none⟩ = some (.int .i64 ((rd_T60 l0 x5_1).f1)) ∧ w'.cell? ⟨(ad389.add ((x5_1).toNat * 3)).block, (ad389.add ((x5_1).toNat * 3)).off + 2, none⟩ = some (.int .i64 ((rd_T60 l0 x5_1).f2))) (ds := []) #[O, O, O, O, O, O, O, O] (by kernel_rfl) rfl rfl ⟨(ce HB.out hw389_0 :), (ce HB.out hw389_1 :), (ce HB.out hw389_2 :)⟩ (fun hHeld => ?_); refine with_tabW laws_heldVarS.tab4 laws_heldVarS.bits4 (fun HT_ HW_ => ?_)
    generalize wr.drew = w11 at HB hx389_0 hx389_1 hx389_2 hHeld ⊢
    refine pure_ (i := 0) (N := some 12) (v := ?_) (a' := ?_) #[I, O, O, O, O, O, O, O] rfl rfl (any_of HT_.out (by kernel_rfl)) (fun _ _ _ h => h) (Or.inl ⟨by rfl, ?_⟩) ?_ ?_
    rotate_left; · intro w'; go_simp; with_reducible rfl
    rotate_left; · simp only [pk, i64_w, i32_w]; rfl
    refine pure_ (i := 1) (N := some 13) (v := ?_) (a' := ?_) #[I, I, O, O, O, O, O, O] rfl rfl (any_of HT_.out (by kernel_rfl)) (fun _ _ _ h => h) (Or.inl ⟨by rfl, ?_⟩) ?_ ?_
    rotate_left; · intro w'; go_simp; with_reducible rfl
    rotate_left; · simp only [pk, i64_w, i32_w]; rfl
    refine pure_ (i := 2) (N := some 14) (v := ?_) (a' := ?_) #[I, I, I, O, O, O, O, O] rfl rfl (any_of HT_.out (by kernel_rfl)) (fun _ _ _ h => h) (Or.inl ⟨by rfl, ?_⟩) ?_ ?_
    rotate_left; · intro w'; go_simp; with_reducible rfl
    rotate_left; · simp only [pk, i64_w, i32_w]; rfl
    refine pure_ (i := 3) (N := some 15) (v := ?_) (a' := ?_) #[I, I, I, I, O, O, O, O] rfl rfl (any_of HT_.out (by kernel_rfl)) (fun _ _ _ h => h) (Or.inl ⟨by rfl, ?_⟩) ?_ ?_
    rotate_left; · intro w'; go_simp; with_reducible rfl
    rotate_left; · simp only [pk, i64_w, i32_w]; rfl
    refine pure_ (i := 5) (N := some 17) (v := ?_) (a' := ?_) #[I, I, I, I, O, I, O, O] rfl rfl (any_of HT_.out (by kernel_rfl)) (fun _ _ _ h => h) (Or.inl ⟨by rfl, ?_⟩) ?_ ?_
    rotate_left; · intro w'; go_simp; with_reducible rfl
    rotate_left; · simp only [pk, i64_w, i32_w]; rfl
    refine take_ (i := 4) (N := some 16) (v := ?_) (a' := ?_) #[I, I, I, I, I, I, O, O] rfl rfl (take_ofW HT_.out HW_.out (by kernel_rfl)) (fun _ _ _ h => h) (Or.inl ⟨by rfl, ?_⟩) hHeld ?_ ?_
    rotate_left; · rintro w' ⟨s0, s1, s2⟩; go_simp; with_reducible rfl
    rotate_left; · simp only [pk, i64_w, i32_w]; rfl
    refine one_ (i := 6) (N := some 18) #[I, I, I, I, I, I, I, O] rfl rfl (one_of HT_.out (by kernel_rfl)) (by decide) (fun K hK => ?_)
    refine goes_ Tryz.func42 (by kernel_rfl) rfl #[.int .i64 x1_1] (by rfl) rfl rfl (by (try simp only [lm]); first | done | rfl | (simp only [List.length_drop, List.length_take]; rfl)) ?_
    with_reducible refine (laws_markText.calls k1 x1_1 t390 _ A5.out).mono ?_
    rintro e w12 ⟨rfl, hb⟩
    refine ⟨_, rfl, ?_⟩
    replace HB := As.mk (below_step (be w) hb)
    (try clear hb)
    (try clear hb2)
    (try clear hk)
    (try clear hi)
    refine hK.out _ _ ⟨(ce HB.out hw389_0 :), (ce HB.out hw389_1 :), (ce HB.out hw389_2 :)⟩ (fun hHeld => ?_)
    clear hK K
    refine norm_ (a' := ?_) ?_ ?_
    rotate_left
    ·
     show Act.put _ (some 18) _ = _
     simp only [pk, i64_w, i32_w]
     rfl
    refine pure_ (i := 7) (N := some 19) (v := ?_) (a' := ?_) #[I, I, I, I, I, I, I, I] rfl rfl (any_of HT_.out (by kernel_rfl)) (fun _ _ _ h => h) (Or.inl ⟨by rfl, ?_⟩) ?_ ?_
    rotate_left; · intro w'; go_simp; with_reducible rfl
    rotate_left; · simp only [pk, i64_w, i32_w]; rfl
    refine done_ (done_of HT_.out (by kernel_rfl)) ?_
    have p391 : 0 ≤ (x5_1 : Int) := od
    have q391 : x5_1 < (l0.length : Int) := od
    obtain ⟨ad391, e391, hx391_0, hx391_1, hx391_2⟩ := at_T60 HR0.out x5_1 p391 q391
    obtain rfl : ad389 = ad391 := (by injection e391)
    replace hx391_0 := ce HB.out hx391_0
    replace hx391_1 := ce HB.out hx391_1
    replace hx391_2 := ce HB.out hx391_2
    replace p391 := eq_true p391
    replace q391 := eq_true q391
    have p392 : 0 ≤ (x5_1 : Int) := od
    have q392 : x5_1 < (l0.length : Int) := od
    obtain ⟨ad392, e392, hx392_0, hx392_1, hx392_2⟩ := at_T60 HR0.out x5_1 p392 q392
    obtain rfl : ad389 = ad392 := (by injection e392)
    replace hx392_0 := ce HB.out hx392_0
    replace hx392_1 := ce HB.out hx392_1
    replace hx392_2 := ce HB.out hx392_2
    replace p392 := eq_true p392
    replace q392 := eq_true q392
    try go_wp2
    go_ret
    exact ⟨ez, be w⟩
   rw [if_pos c8] at H
   have c8b0 : (((rd_T60 l0 x5_1).f2) == (wrap64 ((wrap64 (x1_1 + 1)) + 1))) = true := beq_iff_eq.mpr c8
   have c8b1 : (((rd_T60 l0 x5_1).f2) != (wrap64 ((wrap64 (x1_1 + 1)) + 1))) = false := bne_eq_false_iff_eq.mpr c8
   clear c8
   have H' := As.mk H
   clear H
   try go_wp2
   replace HB := As.mk (below_drew1 HB.out)
   have p389 : 0 ≤ (x5_1 : Int) := od
   have q389 : x5_1 < (l0.length : Int) := od
   obtain ⟨ad389, e389, hx389_0, hx389_1, hx389_2⟩ := at_T60 HR0.out x5_1 p389 q389
   have hw389_2 := hx389_2
   have hw389_1 := hx389_1
   have hw389_0 := hx389_0
   cases e389
   replace hx389_0 := ce HB.out hx389_0
   replace hx389_1 := ce HB.out hx389_1
   replace hx389_2 := ce HB.out hx389_2
   replace p389 := eq_true p389
   replace q389 := eq_true q389
   refine start_ (n := 8) (S := fun w' => w'.cell? (ad389.add ((x5_1).toNat * 3)) = some (.string ((rd_T60 l0 x5_1).f0)) ∧ w'.cell? ⟨(ad389.add ((x5_1).toNat * 3)).block, (ad389.add ((x5_1).toNat * 3)).off + 1, none⟩ = some (.int .i64 ((rd_T60 l0 x5_1).f1)) ∧ w'.cell? ⟨(ad389.add ((x5_1).toNat * 3)).block, (ad389.add ((x5_1).toNat * 3)).off + 2, none⟩ = some (.int .i64 ((rd_T60 l0 x5_1).f2))) (ds := []) #[O, O, O, O, O, O, O, O] (by kernel_rfl) rfl rfl ⟨(ce HB.out hw389_0 :), (ce HB.out hw389_1 :), (ce HB.out hw389_2 :)⟩ (fun hHeld => ?_); refine with_tabW laws_heldVarS.tab4 laws_heldVarS.bits4 (fun HT_ HW_ => ?_)
   generalize wr.drew = w9 at HB hx389_0 hx389_1 hx389_2 hHeld ⊢
   refine pure_ (i := 0) (N := some 12) (v := ?_) (a' := ?_) #[I, O, O, O, O, O, O, O] rfl rfl (any_of HT_.out (by kernel_rfl)) (fun _ _ _ h => h) (Or.inl ⟨by rfl, ?_⟩) ?_ ?_
   rotate_left; · intro w'; go_simp; with_reducible rfl
   rotate_left; · simp only [pk, i64_w, i32_w]; rfl
   refine pure_ (i := 1) (N := some 13) (v := ?_) (a' := ?_) #[I, I, O, O, O, O, O, O] rfl rfl (any_of HT_.out (by kernel_rfl)) (fun _ _ _ h => h) (Or.inl ⟨by rfl, ?_⟩) ?_ ?_
   rotate_left; · intro w'; go_simp; with_reducible rfl
   rotate_left; · simp only [pk, i64_w, i32_w]; rfl
   refine pure_ (i := 2) (N := some 14) (v := ?_) (a' := ?_) #[I, I, I, O, O, O, O, O] rfl rfl (any_of HT_.out (by kernel_rfl)) (fun _ _ _ h => h) (Or.inl ⟨by rfl, ?_⟩) ?_ ?_
   rotate_left; · intro w'; go_simp; with_reducible rfl
   rotate_left; · simp only [pk, i64_w, i32_w]; rfl
   refine pure_ (i := 3) (N := some 15) (v := ?_) (a' := ?_) #[I, I, I, I, O, O, O, O] rfl rfl (any_of HT_.out (by kernel_rfl)) (fun _ _ _ h => h) (Or.inl ⟨by rfl, ?_⟩) ?_ ?_
   rotate_left; · intro w'; go_simp; with_reducible rfl
   rotate_left; · simp only [pk, i64_w, i32_w]; rfl
   refine pure_ (i := 5) (N := some 17) (v := ?_) (a' := ?_) #[I, I, I, I, O, I, O, O] rfl rfl (any_of HT_.out (by kernel_rfl)) (fun _ _ _ h => h) (Or.inl ⟨by rfl, ?_⟩) ?_ ?_
   rotate_left; · intro w'; go_simp; with_reducible rfl
   rotate_left; · simp only [pk, i64_w, i32_w]; rfl
   refine take_ (i := 4) (N := some 16) (v := ?_) (a' := ?_) #[I, I, I, I, I, I, O, O] rfl rfl (take_ofW HT_.out HW_.out (by kernel_rfl)) (fun _ _ _ h => h) (Or.inl ⟨by rfl, ?_⟩) hHeld ?_ ?_
   rotate_left; · rintro w' ⟨s0, s1, s2⟩; go_simp; with_reducible rfl
   rotate_left; · simp only [pk, i64_w, i32_w]; rfl
   refine one_ (i := 6) (N := some 18) #[I, I, I, I, I, I, I, O] rfl rfl (one_of HT_.out (by kernel_rfl)) (by decide) (fun K hK => ?_)
   refine goes_ Tryz.func42 (by kernel_rfl) rfl #[.int .i64 x1_1] (by rfl) rfl rfl (by (try simp only [lm]); first | done | rfl | (simp only [List.length_drop, List.length_take]; rfl)) ?_
   with_reducible refine (laws_markText.calls k1 x1_1 t390 _ A5.out).mono ?_
   rintro e w10 ⟨rfl, hb⟩
   refine ⟨_, rfl, ?_⟩
   replace HB := As.mk (below_step (be w) hb)
   (try clear hb)
   (try clear hb2)
   (try clear hk)
   (try clear hi)
   refine hK.out _ _ ⟨(ce HB.out hw389_0 :), (ce HB.out hw389_1 :), (ce HB.out hw389_2 :)⟩ (fun hHeld => ?_)
   clear hK K
   refine norm_ (a' := ?_) ?_ ?_
   rotate_left
   ·
    show Act.put _ (some 18) _ = _
    simp only [pk, i64_w, i32_w]
    rfl
   refine pure_ (i := 7) (N := some 19) (v := ?_) (a' := ?_) #[I, I, I, I, I, I, I, I] rfl rfl (any_of HT_.out (by kernel_rfl)) (fun _ _ _ h => h) (Or.inl ⟨by rfl, ?_⟩) ?_ ?_
   rotate_left; · intro w'; go_simp; with_reducible rfl
   rotate_left; · simp only [pk, i64_w, i32_w]; rfl
   refine done_ (done_of HT_.out (by kernel_rfl)) ?_
   have p391 : 0 ≤ (x5_1 : Int) := od
   have q391 : x5_1 < (l0.length : Int) := od
   obtain ⟨ad391, e391, hx391_0, hx391_1, hx391_2⟩ := at_T60 HR0.out x5_1 p391 q391
   obtain rfl : ad389 = ad391 := (by injection e391)
   replace hx391_0 := ce HB.out hx391_0
   replace hx391_1 := ce HB.out hx391_1
   replace hx391_2 := ce HB.out hx391_2
   replace p391 := eq_true p391
   replace q391 := eq_true q391
   have p392 : 0 ≤ (x5_1 : Int) := od
   have q392 : x5_1 < (l0.length : Int) := od
   obtain ⟨ad392, e392, hx392_0, hx392_1, hx392_2⟩ := at_T60 HR0.out x5_1 p392 q392
   obtain rfl : ad389 = ad392 := (by injection e392)
   replace hx392_0 := ce HB.out hx392_0
   replace hx392_1 := ce HB.out hx392_1
   replace hx392_2 := ce HB.out hx392_2
   replace p392 := eq_true p392
   replace q392 := eq_true q392
   try go_wp2
   go_roundg k1
   case measure => have := HK1.out; omega
   case rel => exact ⟨(wrap64 ((wrap64 ((wrap64 (x1_1 + 1)) + 1)) + 1)), (wrap64 (x5_1 + 1)), (by first | rfl | (simp; done) | (simp [*]; done)), (by first | rfl | (simp; done) | (simp [*]; done)), H', ⟨by have := HK1.out; omega⟩, ⟨be w⟩⟩
/-! ### laws_FnExactVarsOf: function 3 -/
def laws_FnExactVarsOf.j0 : Nat → Int → List (S60) → List (S60) → Bool → List (S80) → List (S84) → Option (Bool)
 | 0, _, _, _, _, _, _ => none
 | k + 1, x1, x6, x8, x46, x394000, x394001 => if x46 = true then (some false) else ((laws_markVarS.f k x8 1).bind fun bt424 => ((laws_heldVarS.f k bt424.2 1).bind fun t426 => (if t426 < 0 then (some false) else (if t426 = bt424.1 then ((laws_toProgram.f k x394000 x394001).bind fun bt427 => ((impl_VarsOf.f k bt427.1 bt427.2 x1).bind fun t433 => ((laws_eqVarS.f k t433 x6).bind fun t436 => (if t436 = true then ((laws_heldVarS.f k bt424.2 1).bind fun t437 => (if t437 < 0 then (some false) else (if t437 = bt424.1 then (some true) else (some false)))) else (some false))))) else (some false)))))
def laws_FnExactVarsOf.f (k : Nat) (l0_0 : List (S80)) (l0_1 : List (S84)) (a1 : Int) : Option (Bool) := (laws_szProgram.f k l0_0 l0_1 1048576).bind fun t394 => (if t394 < 0 then (some true) else ((laws_toProgram.f k l0_0 l0_1).bind fun bt395 => ((spec_VarsOf.f k bt395.1 bt395.2 a1).bind fun t401 => ((laws_toProgram.f k l0_0 l0_1).bind fun bt404 => ((impl_VarsOf.f k bt404.1 bt404.2 a1).bind fun t411 => ((laws_eqVarS.f k t411 t401).bind fun t414 => (if t414 = true then ((laws_toProgram.f k l0_0 l0_1).bind fun bt415 => ((laws_eqProgram.f k bt404.1 bt404.2 bt415.1 bt415.2).bind fun t421 => (if t421 = true then ((laws_markProgram.f bt404.1 bt404.2 1).bind fun t422 => (if t422 < 0 then (laws_FnExactVarsOf.j0 k a1 t401 t411 true l0_0 l0_1) else ((laws_eqVarS.f k t411 t401).bind fun t423 => (laws_FnExactVarsOf.j0 k a1 t401 t411 (!t423) l0_0 l0_1)))) else (some false)))) else (some false))))))))
theorem laws_FnExactVarsOf.mono_l : ∀ k, (∀ y0 y1 y2 y3 y4 y5, LeO (laws_FnExactVarsOf.j0 k y0 y1 y2 y3 y4 y5) (laws_FnExactVarsOf.j0 (k + 1) y0 y1 y2 y3 y4 y5))
 | 0 => fun _ _ _ _ _ _ r h => by simp [laws_FnExactVarsOf.j0] at h
 | k + 1 => by
  have ih0 := laws_FnExactVarsOf.mono_l k
  ·
   intro y0 y1 y2 y3 y4 y5
   unfold laws_FnExactVarsOf.j0
   with_reducible repeat' first | exact ih0 _ _ _ _ _ _ | exact impl_VarsOf.mono _ _ _ _ | exact laws_eqProgram.mono _ _ _ _ _ | exact laws_eqVarS.mono _ _ _ | exact laws_heldVarS.mono _ _ _ | exact laws_markVarS.mono _ _ _ | exact laws_szProgram.mono _ _ _ _ | exact laws_toProgram.mono _ _ _ | exact spec_VarsOf.mono _ _ _ _ | exact LeO.refl _ | exact LeO.none _ | refine LeO.ite ?_ ?_ | refine LeO.bind ?_ (fun _ => ?_)
theorem laws_FnExactVarsOf.mono : ∀ a0 a1 a2 k, LeO (laws_FnExactVarsOf.f k a0 a1 a2) (laws_FnExactVarsOf.f (k + 1) a0 a1 a2) := by
 intro a0 a1 a2 k
 have ih0 := laws_FnExactVarsOf.mono_l k
 unfold laws_FnExactVarsOf.f
 with_reducible repeat' first | exact ih0 _ _ _ _ _ _ | exact impl_VarsOf.mono _ _ _ _ | exact laws_eqProgram.mono _ _ _ _ _ | exact laws_eqVarS.mono _ _ _ | exact laws_heldVarS.mono _ _ _ | exact laws_markVarS.mono _ _ _ | exact laws_szProgram.mono _ _ _ _ | exact laws_toProgram.mono _ _ _ | exact spec_VarsOf.mono _ _ _ _ | exact LeO.refl _ | exact LeO.none _ | refine LeO.ite ?_ ?_ | refine LeO.bind ?_ (fun _ => ?_)
set_option maxHeartbeats 8000000 in
set_option maxRecDepth 100000 in
theorem laws_FnExactVarsOf.calls (k : Nat) (A0_0 : Option Addr) (c0_0 : Nat) (l0_0 : List (S80)) (A0_1 : Option Addr) (c0_1 : Nat) (l0_1 : List (S84)) (a1 : Int) (r : Bool) (w : World) (hr0_0 : Kd.C k80 w A0_0 l0_0.length l0_0) (hc0_0 : l0_0.length ≤ c0_0) (hr0_1 : Kd.C k84 w A0_1 l0_1.length l0_1) (hc0_1 : l0_1.length ≤ c0_1) (hrt : As (r = true)) (h : laws_FnExactVarsOf.f k l0_0 l0_1 a1 = some r) :
  Calls Tryz.prog 3 #[.agg #[.slice A0_0 l0_0.length c0_0, .slice A0_1 l0_1.length c0_1], .int .i64 a1] w fun e w' => e = .returned (.bool r) ∧ Below w.heap.size w w' := by
 have hu25 := Tryz.underlying25
 have hu32 := Tryz.underlying32
 have HR0_0 := As.mk hr0_0
 have HC0_0 := As.mk hc0_0
 clear hr0_0 hc0_0
 have HR0_1 := As.mk hr0_1
 have HC0_1 := As.mk hc0_1
 clear hr0_1 hc0_1
 have HB := As.mk (Below.refl w.heap.size w)
 have H : ((laws_szProgram.f k l0_0 l0_1 1048576).bind fun t394 => (if t394 < 0 then (some true) else ((laws_toProgram.f k l0_0 l0_1).bind fun bt395 => ((spec_VarsOf.f k bt395.1 bt395.2 a1).bind fun t401 => ((laws_toProgram.f k l0_0 l0_1).bind fun bt404 => ((impl_VarsOf.f k bt404.1 bt404.2 a1).bind fun t411 => ((laws_eqVarS.f k t411 t401).bind fun t414 => (if t414 = true then ((laws_toProgram.f k l0_0 l0_1).bind fun bt415 => ((laws_eqProgram.f k bt404.1 bt404.2 bt415.1 bt415.2).bind fun t421 => (if t421 = true then ((laws_markProgram.f bt404.1 bt404.2 1).bind fun t422 => (if t422 < 0 then (laws_FnExactVarsOf.j0 k a1 t401 t411 true l0_0 l0_1) else ((laws_eqVarS.f k t411 t401).bind fun t423 => (laws_FnExactVarsOf.j0 k a1 t401 t411 (!t423) l0_0 l0_1)))) else (some false)))) else (some false))))))))) = some r := h
 clear h
 obtain ⟨t394, A30, H⟩ := Option.bind_eq_some_iff.mp H
 try dsimp only at H
 have A3 := As.mk A30
 clear A30
 by_cases c4 : t394 < 0
 ·
  rw [if_pos c4] at H
  have c4b0 : decide (t394 < 0) = true := decide_eq_true c4
  clear c4
  obtain rfl := Option.some.inj H
  go_enter Tryz.func3, Tryz.ntmps3
  go_wp2_with (first | ((with_reducible refine gate_dst (N := 2) rfl ?_); refine box_event ?hg (N := 2) ?hd (cs := #[.slice A0_0 l0_0.length c0_0, .slice A0_1 l0_1.length c0_1]) (t := 25) ?hr ?_; (case hd => rfl); (case hg => rfl); (case hr => first | (go_simp; done) | (go_simp; rfl)); intro gb393 hg w5 hbox hb; have BK393 := As.mk (hbox); have GW393 := As.mk (gs w hg); have GE393 := As.mk (gs w hg); replace HB := As.mk (below_step (be w) hb); clear hb hbox hg; obtain ⟨hcz6_0, hcz6_1, hfz6_0, hfz6_1⟩ := cl2 BK393.out) | ((with_reducible refine gate_callee (f := 9) rfl ?_); refine goesL_ (some 15) rfl rfl Tryz.func9 (by kernel_rfl) rfl #[.agg #[.slice A0_0 l0_0.length c0_0, .slice A0_1 l0_1.length c0_1], .int .i64 1048576] rfl (by (try simp only [lm]); first | done | rfl | (simp only [List.length_drop, List.length_take]; rfl)) ?_; (with_reducible refine (laws_szProgram.calls k _ _ l0_0 _ _ l0_1 1048576 t394 _ ?side1 ?side2 ?side3 ?side4 A3.out).mono ?_); (case side1 => exact Kd.C_below HR0_0.out (be w)); (case side2 => exact HC0_0.out); (case side3 => exact Kd.C_below HR0_1.out (be w)); (case side4 => exact HC0_1.out); rintro e w7 ⟨rfl, hb⟩; refine ⟨_, rfl, ?_⟩; replace HB := As.mk (below_step (be w) hb); (try clear hb); (try clear hb2); (try clear hk); (try clear hi)))
  go_ret
  exact ⟨ez, be w⟩
 rw [if_neg c4] at H
 have c4b0 : decide (t394 < 0) = false := decide_eq_false c4
 clear c4
 obtain ⟨⟨t395, t398⟩, A80, H⟩ := Option.bind_eq_some_iff.mp H
 try dsimp only at H
 have A8 := As.mk A80
 clear A80
 obtain ⟨t401, A90, H⟩ := Option.bind_eq_some_iff.mp H
 try dsimp only at H
 have A9 := As.mk A90
 clear A90
 obtain ⟨⟨t404, t407⟩, A100, H⟩ := Option.bind_eq_some_iff.mp H
 try dsimp only at H
 have A10 := As.mk A100
 clear A100
 obtain ⟨t411, A110, H⟩ := Option.bind_eq_some_iff.mp H
 try dsimp only at H
 have A11 := As.mk A110
 clear A110
 obtain ⟨t414, A120, H⟩ := Option.bind_eq_some_iff.mp H
 try dsimp only at H
 have A12 := As.mk A120
 clear A120
 by_cases c13 : t414 = true
 rotate_left
 ·
  replace c13 := Bool.eq_false_iff.mpr c13
  subst c13
  rw [if_neg (show ¬ (false = true) by decide)] at H
  exact absurd H (by rw [hrt.out]; simp)

 subst c13
 rw [if_pos rfl] at H
 obtain ⟨⟨t415, t418⟩, A140, H⟩ := Option.bind_eq_some_iff.mp H
 try dsimp only at H
 have A14 := As.mk A140
 clear A140
 obtain ⟨t421, A150, H⟩ := Option.bind_eq_some_iff.mp H
 try dsimp only at H
 have A15 := As.mk A150
 clear A150
 by_cases c16 : t421 = true
 rotate_left
 ·
  replace c16 := Bool.eq_false_iff.mpr c16
  subst c16
  rw [if_neg (show ¬ (false = true) by decide)] at H
  exact absurd H (by rw [hrt.out]; simp)
 subst c16
 rw [if_pos rfl] at H
 obtain ⟨t422, A170, H⟩ := Option.bind_eq_some_iff.mp H
 try dsimp only at H
 have A17 := As.mk A170
 clear A170
 have HC18 := As.mk H
 clear H
 go_enter Tryz.func3, Tryz.ntmps3
 try go_wp2_with (first | ((with_reducible refine gate_dst (N := 2) rfl ?_); refine box_event ?hg (N := 2) ?hd (cs := #[.slice A0_0 l0_0.length c0_0, .slice A0_1 l0_1.length c0_1]) (t := 25) ?hr ?_; (case hd => rfl); (case hg => rfl); (case hr => first | (go_simp; done) | (go_simp; rfl)); intro gb393 hg w19 hbox hb; have BK393 := As.mk (hbox); have GW393 := As.mk (gs w hg); have GE393 := As.mk (gs w hg); replace HB := As.mk (below_step (be w) hb); clear hb hbox hg; obtain ⟨hcz20_0, hcz20_1, hfz20_0, hfz20_1⟩ := cl2 BK393.out) | ((with_reducible refine gate_callee (f := 9) rfl ?_); refine goesL_ (some 15) rfl rfl Tryz.func9 (by kernel_rfl) rfl #[.agg #[.slice A0_0 l0_0.length c0_0, .slice A0_1 l0_1.length c0_1], .int .i64 1048576] rfl (by (try simp only [lm]); first | done | rfl | (simp only [List.length_drop, List.length_take]; rfl)) ?_; (with_reducible refine (laws_szProgram.calls k _ _ l0_0 _ _ l0_1 1048576 t394 _ ?side1 ?side2 ?side3 ?side4 A3.out).mono ?_); (case side1 => exact Kd.C_below HR0_0.out (be w)); (case side2 => exact HC0_0.out); (case side3 => exact Kd.C_below HR0_1.out (be w)); (case side4 => exact HC0_1.out); rintro e w21 ⟨rfl, hb⟩; refine ⟨_, rfl, ?_⟩; replace BK393 := As.mk (blk_below (bx BK393.out) hb); replace HB := As.mk (below_step (be w) hb); (try clear hb); (try clear hb2); (try clear hk); (try clear hi); obtain ⟨hcz22_0, hcz22_1, hfz22_0, hfz22_1⟩ := cl2 BK393.out) | ((with_reducible refine gate_callee (f := 11) rfl ?_); refine goesL_ (some 19) rfl rfl Tryz.func11 (by kernel_rfl) rfl #[.agg #[.slice A0_0 l0_0.length c0_0, .slice A0_1 l0_1.length c0_1]] rfl (by (try simp only [lm]); first | done | rfl | (simp only [List.length_drop, List.length_take]; rfl)) ?_; (with_reducible refine (laws_toProgram.calls k _ _ l0_0 _ _ l0_1 t395 t398 _ ?side1 ?side2 ?side3 ?side4 A8.out).mono ?_); (case side1 => exact Kd.C_below HR0_0.out (be w)); (case side2 => exact HC0_0.out); (case side3 => exact Kd.C_below HR0_1.out (be w)); (case side4 => exact HC0_1.out); rintro e w23 ⟨v396, v399, rfl, ho0, ho1, hb⟩; refine ⟨_, rfl, ?_⟩; have HO397 := As.mk (Kd.S_lower ho0 (below_size (be w))); have HO400 := As.mk (Kd.S_lower ho1 (below_size (be w))); replace BK393 := As.mk (blk_below (bx BK393.out) hb); replace HB := As.mk (below_step (be w) hb); (try clear hb); (try clear hb2); (try clear hk); (try clear hi); (try clear ho0); (try clear ho1); obtain ⟨Ao24, co24, eo24⟩ := Kd.S_slice HO397.out; subst eo24; obtain ⟨Ao25, co25, eo25⟩ := Kd.S_slice HO400.out; subst eo25) | ((with_reducible refine gate_callee (f := 10) rfl ?_); refine goesL_ (some 21) rfl rfl Tryz.func10 (by kernel_rfl) rfl #[.agg #[.slice Ao24 t395.length co24, .slice Ao25 t398.length co25], .int .i64 a1] rfl (by (try simp only [lm]); first | done | rfl | (simp only [List.length_drop, List.length_take]; rfl)) ?_; (with_reducible refine (spec_VarsOf.calls k _ _ t395 _ _ t398 a1 t401 _ ?side1 ?side2 ?side3 ?side4 A9.out).mono ?_); (case side1 => repeat (first | exact (Kd.S_reads' HO397.out).2.2 | (with_reducible refine Kd.C_alloc ?_ _) | (with_reducible refine Kd.C_drewN ?_ _) | (with_reducible refine Kd.C_drew ?_))); (case side2 => exact (Kd.S_reads' HO397.out).2.1); (case side3 => repeat (first | exact (Kd.S_reads' HO400.out).2.2 | (with_reducible refine Kd.C_alloc ?_ _) | (with_reducible refine Kd.C_drewN ?_ _) | (with_reducible refine Kd.C_drew ?_))); (case side4 => exact (Kd.S_reads' HO400.out).2.1); rintro e w26 ⟨v402, rfl, ho0, hb⟩; refine ⟨_, rfl, ?_⟩; replace HO397 := As.mk (Kd.S_below (by (with_reducible repeat (first | apply Kd.S_alloc | apply Kd.S_drewN | apply Kd.S_drew)); exact HO397.out) hb); replace HO400 := As.mk (Kd.S_below (by (with_reducible repeat (first | apply Kd.S_alloc | apply Kd.S_drewN | apply Kd.S_drew)); exact HO400.out) hb); have HO403 := As.mk (Kd.R_lower ho0 (below_size (be w))); replace BK393 := As.mk (blk_below (bx BK393.out) hb); replace HB := As.mk (below_step (be w) hb); (try clear hb); (try clear hb2); (try clear hk); (try clear hi); (try clear ho0); obtain ⟨hcz27_0, hcz27_1, hfz27_0, hfz27_1⟩ := cl2 BK393.out) | ((with_reducible refine gate_callee (f := 11) rfl ?_); refine goesL_ (some 23) rfl rfl Tryz.func11 (by kernel_rfl) rfl #[.agg #[.slice A0_0 l0_0.length c0_0, .slice A0_1 l0_1.length c0_1]] rfl (by (try simp only [lm]); first | done | rfl | (simp only [List.length_drop, List.length_take]; rfl)) ?_; (with_reducible refine (laws_toProgram.calls k _ _ l0_0 _ _ l0_1 t404 t407 _ ?side1 ?side2 ?side3 ?side4 A10.out).mono ?_); (case side1 => exact Kd.C_below HR0_0.out (be w)); (case side2 => exact HC0_0.out); (case side3 => exact Kd.C_below HR0_1.out (be w)); (case side4 => exact HC0_1.out); rintro e w28 ⟨v405, v408, rfl, ho0, ho1, hb⟩; refine ⟨_, rfl, ?_⟩; replace HO403 := As.mk (Kd.R_below (by (with_reducible repeat (first | apply Kd.R_alloc | apply Kd.R_drewN | apply Kd.R_drew)); exact HO403.out) hb); have HO406 := As.mk (Kd.S_lower (Kd.S_new' ho0 (Kd.S_lt (by (with_reducible repeat (first | apply Kd.S_alloc | apply Kd.S_drewN | apply Kd.S_drew)); exact HO397.out))) (below_size (be w))); replace HO397 := As.mk (Kd.S_elder' (by (with_reducible repeat (first | apply Kd.S_alloc | apply Kd.S_drewN | apply Kd.S_drew)); exact HO397.out) (Kd.S_base ho0) hb); have HO409 := As.mk (Kd.S_lower (Kd.S_new' ho1 (Kd.S_lt (by (with_reducible repeat (first | apply Kd.S_alloc | apply Kd.S_drewN | apply Kd.S_drew)); exact HO400.out))) (below_size (be w))); replace HO400 := As.mk (Kd.S_elder' (by (with_reducible repeat (first | apply Kd.S_alloc | apply Kd.S_drewN | apply Kd.S_drew)); exact HO400.out) (Kd.S_base ho1) hb); replace BK393 := As.mk (blk_below (bx BK393.out) hb); replace HB := As.mk (below_step (be w) hb); (try clear hb); (try clear hb2); (try clear hk); (try clear hi); (try clear ho0); (try clear ho1)) | ((with_reducible refine gate_dst (N := 7) rfl ?_); refine box_event ?hg (N := 7) ?hd (cs := #[.slice none 0 0, .slice none 0 0]) (t := 32) ?hr ?_; (case hd => rfl); (case hg => rfl); (case hr => first | (go_simp; done) | (go_simp; rfl)); intro gb410 hg w29 hbox hb; replace HO397 := As.mk (Kd.S_below (by (with_reducible repeat (first | apply Kd.S_alloc | apply Kd.S_drewN | apply Kd.S_drew)); exact HO397.out) hb); replace HO400 := As.mk (Kd.S_below (by (with_reducible repeat (first | apply Kd.S_alloc | apply Kd.S_drewN | apply Kd.S_drew)); exact HO400.out) hb); replace HO403 := As.mk (Kd.R_below (by (with_reducible repeat (first | apply Kd.R_alloc | apply Kd.R_drewN | apply Kd.R_drew)); exact HO403.out) hb); replace HO406 := As.mk (Kd.S_below (by (with_reducible repeat (first | apply Kd.S_alloc | apply Kd.S_drewN | apply Kd.S_drew)); exact HO406.out) hb); replace HO409 := As.mk (Kd.S_below (by (with_reducible repeat (first | apply Kd.S_alloc | apply Kd.S_drewN | apply Kd.S_drew)); exact HO409.out) hb); have BK410 := As.mk (hbox); have GW410 := As.mk (gs w hg); have GE410 := As.mk (gs w hg); replace HB := As.mk (below_step (be w) hb); have NB393_410 := As.mk (nl hg (bx BK393.out)); have NB410_393 := As.mk (ng hg (bx BK393.out)); replace BK393 := As.mk (blk_below (bx BK393.out) hb); clear hb hbox hg; obtain ⟨Ao30, co30, eo30⟩ := Kd.S_slice HO406.out; subst eo30; have hnb31 := NB410_393.out; have hnc31 := NB393_410.out; obtain ⟨hcz32_0, hcz32_1, hfz32_0, hfz32_1⟩ := cl2 BK410.out; obtain ⟨Ao33, co33, eo33⟩ := Kd.S_slice HO409.out; subst eo33) | ((with_reducible refine gate_callee (f := 12) rfl ?_); refine goesL_ (some 26) rfl rfl Tryz.func12 (by kernel_rfl) rfl #[.agg #[.slice Ao30 t404.length co30, .slice Ao33 t407.length co33], .int .i64 a1] rfl (by (try simp only [lm]); first | done | rfl | (simp only [List.length_drop, List.length_take]; rfl)) ?_; (with_reducible refine (impl_VarsOf.calls k _ _ t404 _ _ t407 a1 t411 _ ?side1 ?side2 ?side3 ?side4 A11.out).mono ?_); (case side1 => refine (Kd.S_reads' (e := 62) (base := w.heap.size) (ok := fun k_ => (True ∧ some k_ ≠ (.slice Ao24 t395.length co24 : Value).ownBlock)) (n := t404.length) (c := co30) ?_).2.2; exact (by (with_reducible repeat (first | apply Kd.S_alloc | apply Kd.S_drewN | apply Kd.S_drew)); exact (Kd.S_mono (Kd.S_far (p := ⟨gb410, 1, none⟩) (Kd.S_far (p := ⟨gb410, 0, none⟩) (Kd.S_types HO406.out BK410.out (by decide)) (fun _ hk => hk.2) (.slice Ao30 t404.length co30)) (fun _ hk => hk.2) (.slice Ao33 t407.length co33)) (fun _ h_ => h_.1)))); (case side2 => exact (Kd.S_reads' HO406.out).2.1); (case side3 => refine (Kd.S_reads' (e := 56) (base := w.heap.size) (ok := fun k_ => (True ∧ some k_ ≠ (.slice Ao25 t398.length co25 : Value).ownBlock)) (n := t407.length) (c := co33) ?_).2.2; exact (by (with_reducible repeat (first | apply Kd.S_alloc | apply Kd.S_drewN | apply Kd.S_drew)); exact (Kd.S_mono (Kd.S_far (p := ⟨gb410, 1, none⟩) (Kd.S_far (p := ⟨gb410, 0, none⟩) (Kd.S_types HO409.out BK410.out (by decide)) (fun _ hk => hk.2) (.slice Ao30 t404.length co30)) (fun _ hk => hk.2) (.slice Ao33 t407.length co33)) (fun _ h_ => h_.1)))); (case side4 => exact (Kd.S_reads' HO409.out).2.1); rintro e w34 ⟨v412, rfl, ho0, hb⟩; refine ⟨_, rfl, ?_⟩; replace HO397 := As.mk (Kd.S_below (by (with_reducible repeat (first | apply Kd.S_alloc | apply Kd.S_drewN | apply Kd.S_drew)); exact (Kd.S_mono (Kd.S_far (p := ⟨gb410, 1, none⟩) (Kd.S_far (p := ⟨gb410, 0, none⟩) (Kd.S_types HO397.out BK410.out (by decide)) (fun _ hk => hk.2) (.slice Ao30 t404.length co30)) (fun _ hk => hk.2) (.slice Ao33 t407.length co33)) (fun _ h_ => h_.1))) hb); replace HO400 := As.mk (Kd.S_below (by (with_reducible repeat (first | apply Kd.S_alloc | apply Kd.S_drewN | apply Kd.S_drew)); exact (Kd.S_mono (Kd.S_far (p := ⟨gb410, 1, none⟩) (Kd.S_far (p := ⟨gb410, 0, none⟩) (Kd.S_types HO400.out BK410.out (by decide)) (fun _ hk => hk.2) (.slice Ao30 t404.length co30)) (fun _ hk => hk.2) (.slice Ao33 t407.length co33)) (fun _ h_ => h_.1))) hb); replace HO406 := As.mk (Kd.S_below (by (with_reducible repeat (first | apply Kd.S_alloc | apply Kd.S_drewN | apply Kd.S_drew)); exact (Kd.S_mono (Kd.S_far (p := ⟨gb410, 1, none⟩) (Kd.S_far (p := ⟨gb410, 0, none⟩) (Kd.S_types HO406.out BK410.out (by decide)) (fun _ hk => hk.2) (.slice Ao30 t404.length co30)) (fun _ hk => hk.2) (.slice Ao33 t407.length co33)) (fun _ h_ => h_.1))) hb); replace HO409 := As.mk (Kd.S_below (by (with_reducible repeat (first | apply Kd.S_alloc | apply Kd.S_drewN | apply Kd.S_drew)); exact (Kd.S_mono (Kd.S_far (p := ⟨gb410, 1, none⟩) (Kd.S_far (p := ⟨gb410, 0, none⟩) (Kd.S_types HO409.out BK410.out (by decide)) (fun _ hk => hk.2) (.slice Ao30 t404.length co30)) (fun _ hk => hk.2) (.slice Ao33 t407.length co33)) (fun _ h_ => h_.1))) hb); have HO413 := As.mk (Kd.R_lower (Kd.R_new' ho0 (Kd.R_lt (by (with_reducible repeat (first | apply Kd.R_alloc | apply Kd.R_drewN | apply Kd.R_drew)); (have z_ := R_far2 HO403.out BK410.out (by decide)); with_reducible exact z_ _ _))) (below_size (be w))); replace HO403 := As.mk (Kd.R_elder' (by (with_reducible repeat (first | apply Kd.R_alloc | apply Kd.R_drewN | apply Kd.R_drew)); (have z_ := R_far2 HO403.out BK410.out (by decide)); with_reducible exact z_ _ _) (Kd.R_base ho0) hb); replace BK393 := As.mk (blk_below (g := gb393) (o := .cells #[.slice A0_0 l0_0.length c0_0, .slice A0_1 l0_1.length c0_1] 25 (0, 0)) (by refine pl ?_; refine blk_far ?_ NB393_410.out _; refine pl ?_; refine blk_far ?_ NB393_410.out _; exact bx BK393.out) hb); replace BK410 := As.mk (blk_below (g := gb410) (o := .cells #[.slice Ao30 t404.length co30, .slice Ao33 t407.length co33] 32 (0, 0)) (by refine pl ?_; refine blk_put (cs := #[.slice Ao30 t404.length co30, .slice none 0 0]) ?_ 1 _ rfl; refine pl ?_; refine blk_put (cs := #[.slice none 0 0, .slice none 0 0]) ?_ 0 _ rfl; exact bx BK410.out) hb); replace HB := As.mk (below_step (be w) hb); (try clear hb); (try clear hb2); (try clear hk); (try clear hi); (try clear ho0); obtain ⟨Ao35, co35, eo35⟩ := Kd.R_slice HO413.out; subst eo35; obtain ⟨Ao36, co36, eo36⟩ := Kd.R_slice HO403.out; subst eo36) | ((with_reducible refine gate_callee (f := 13) rfl ?_); refine goesL_ (some 29) rfl rfl Tryz.func13 (by kernel_rfl) rfl #[.slice Ao35 t411.length co35, .slice Ao36 t401.length co36] rfl (by (try simp only [lm]); first | done | rfl | (simp only [List.length_drop, List.length_take]; rfl)) ?_; (with_reducible refine (laws_eqVarS.calls k _ _ t411 _ _ t401 true _ ?side1 ?side2 ?side3 ?side4 A12.out).mono ?_); (case side1 => repeat (first | exact (Kd.R_reads' HO413.out).2.2 | (with_reducible refine Kd.C_alloc ?_ _) | (with_reducible refine Kd.C_drewN ?_ _) | (with_reducible refine Kd.C_drew ?_))); (case side2 => exact (Kd.R_reads' HO413.out).2.1); (case side3 => repeat (first | exact (Kd.R_reads' HO403.out).2.2 | (with_reducible refine Kd.C_alloc ?_ _) | (with_reducible refine Kd.C_drewN ?_ _) | (with_reducible refine Kd.C_drew ?_))); (case side4 => exact (Kd.R_reads' HO403.out).2.1); rintro e w37 ⟨rfl, hb⟩; refine ⟨_, rfl, ?_⟩; replace HO397 := As.mk (Kd.S_below (by (with_reducible repeat (first | apply Kd.S_alloc | apply Kd.S_drewN | apply Kd.S_drew)); exact HO397.out) hb); replace HO400 := As.mk (Kd.S_below (by (with_reducible repeat (first | apply Kd.S_alloc | apply Kd.S_drewN | apply Kd.S_drew)); exact HO400.out) hb); replace HO403 := As.mk (Kd.R_below (by (with_reducible repeat (first | apply Kd.R_alloc | apply Kd.R_drewN | apply Kd.R_drew)); exact HO403.out) hb); replace HO406 := As.mk (Kd.S_below (by (with_reducible repeat (first | apply Kd.S_alloc | apply Kd.S_drewN | apply Kd.S_drew)); exact HO406.out) hb); replace HO409 := As.mk (Kd.S_below (by (with_reducible repeat (first | apply Kd.S_alloc | apply Kd.S_drewN | apply Kd.S_drew)); exact HO409.out) hb); replace HO413 := As.mk (Kd.R_below (by (with_reducible repeat (first | apply Kd.R_alloc | apply Kd.R_drewN | apply Kd.R_drew)); exact HO413.out) hb); replace BK393 := As.mk (blk_below (bx BK393.out) hb); replace BK410 := As.mk (blk_below (bx BK410.out) hb); replace HB := As.mk (below_step (be w) hb); (try clear hb); (try clear hb2); (try clear hk); (try clear hi)))
 replace HO397 := As.mk (Kd.S_drew HO397.out)
 replace HO400 := As.mk (Kd.S_drew HO400.out)
 replace HO403 := As.mk (Kd.R_drew HO403.out)
 replace HO406 := As.mk (Kd.S_drew HO406.out)
 replace HO409 := As.mk (Kd.S_drew HO409.out)
 replace HO413 := As.mk (Kd.R_drew HO413.out)
 replace BK393 := As.mk (blk_drew BK393.out)
 replace BK410 := As.mk (blk_drew BK410.out)
 replace HB := As.mk (below_drew1 HB.out)
 refine start_ (n := 5) (S := fun w' => w'.cell? ⟨gb410, 0, none⟩ = some (.slice Ao30 t404.length co30) ∧ w'.cell? ⟨gb410, 1, none⟩ = some (.slice Ao33 t407.length co33) ∧ w'.cell? ⟨gb393, 0, none⟩ = some (.slice A0_0 l0_0.length c0_0) ∧ w'.cell? ⟨gb393, 1, none⟩ = some (.slice A0_1 l0_1.length c0_1)) (ds := []) #[O, O, O, O, O] (by kernel_rfl) rfl rfl ⟨(blk_cell BK410.out 0).trans rfl, (blk_cell BK410.out 1).trans rfl, (blk_cell BK393.out 0).trans rfl, (blk_cell BK393.out 1).trans rfl⟩ (fun hHeld => ?_)
 generalize w37.drew = w38 at HO397 HO400 HO403 HO406 HO409 HO413 BK393 BK410 HB hHeld ⊢
 refine take_ (i := 0) (N := some 31) (v := ?_) (a' := ?_) #[I, O, O, O, O] rfl rfl (by kernel_rfl) (fun _ _ _ h => h) (Or.inl ⟨by rfl, ?_⟩) hHeld ?_ ?_
 rotate_left; · rintro w' ⟨s0, s1, s2, s3⟩; go_simp; with_reducible rfl
 rotate_left; · simp only [pk, i64_w, i32_w]; rfl
 refine take_ (i := 1) (N := some 32) (v := ?_) (a' := ?_) #[I, I, O, O, O] rfl rfl (by kernel_rfl) (fun _ _ _ h => h) (Or.inl ⟨by rfl, ?_⟩) hHeld ?_ ?_
 rotate_left; · rintro w' ⟨s0, s1, s2, s3⟩; go_simp; with_reducible rfl
 rotate_left; · simp only [pk, i64_w, i32_w]; rfl
 refine one_ (i := 2) (N := some 33) #[I, I, I, O, O] rfl rfl (by kernel_rfl) (by decide) (fun K hK => ?_)
 refine goes_ Tryz.func11 (by kernel_rfl) rfl #[.agg #[.slice A0_0 l0_0.length c0_0, .slice A0_1 l0_1.length c0_1]] (by rfl) rfl rfl (by (try simp only [lm]); first | done | rfl | (simp only [List.length_drop, List.length_take]; rfl)) ?_
 with_reducible refine (laws_toProgram.calls k _ _ l0_0 _ _ l0_1 t415 t418 _ ?side1 ?side2 ?side3 ?side4 A14.out).mono ?_
 (case side1 => exact Kd.C_below HR0_0.out (be w))
 (case side2 => exact HC0_0.out)
 (case side3 => exact Kd.C_below HR0_1.out (be w))
 (case side4 => exact HC0_1.out)
 rintro e w39 ⟨v416, v419, rfl, ho0, ho1, hb⟩
 refine ⟨_, rfl, ?_⟩
 replace HO403 := As.mk (Kd.R_below (by (with_reducible repeat (first | apply Kd.R_alloc | apply Kd.R_drewN | apply Kd.R_drew)); exact HO403.out) hb)
 replace HO413 := As.mk (Kd.R_below (by (with_reducible repeat (first | apply Kd.R_alloc | apply Kd.R_drewN | apply Kd.R_drew)); exact HO413.out) hb)
 have HO417 := As.mk (Kd.S_lower (Kd.S_new' (Kd.S_new' ho0 (Kd.S_lt (by (with_reducible repeat (first | apply Kd.S_alloc | apply Kd.S_drewN | apply Kd.S_drew)); exact HO397.out))) (Kd.S_lt (by (with_reducible repeat (first | apply Kd.S_alloc | apply Kd.S_drewN | apply Kd.S_drew)); exact HO406.out))) (below_size (be w)))
 replace HO397 := As.mk (Kd.S_elder' (by (with_reducible repeat (first | apply Kd.S_alloc | apply Kd.S_drewN | apply Kd.S_drew)); exact HO397.out) (Kd.S_base ho0) hb)
 replace HO406 := As.mk (Kd.S_elder' (by (with_reducible repeat (first | apply Kd.S_alloc | apply Kd.S_drewN | apply Kd.S_drew)); exact HO406.out) (Kd.S_base ho0) hb)
 have HO420 := As.mk (Kd.S_lower (Kd.S_new' (Kd.S_new' ho1 (Kd.S_lt (by (with_reducible repeat (first | apply Kd.S_alloc | apply Kd.S_drewN | apply Kd.S_drew)); exact HO400.out))) (Kd.S_lt (by (with_reducible repeat (first | apply Kd.S_alloc | apply Kd.S_drewN | apply Kd.S_drew)); exact HO409.out))) (below_size (be w)))
 replace HO400 := As.mk (Kd.S_elder' (by (with_reducible repeat (first | apply Kd.S_alloc | apply Kd.S_drewN | apply Kd.S_drew)); exact HO400.out) (Kd.S_base ho1) hb)
 replace HO409 := As.mk (Kd.S_elder' (by (with_reducible repeat (first | apply Kd.S_alloc | apply Kd.S_drewN | apply Kd.S_drew)); exact HO409.out) (Kd.S_base ho1) hb)
 replace BK393 := As.mk (blk_below (bx BK393.out) hb)
 replace BK410 := As.mk (blk_below (bx BK410.out) hb)
 replace HB := As.mk (below_step (be w) hb)
 (try clear hb)
 (try clear hb2)
 (try clear hk)
 (try clear hi)
 (try clear ho0)
 (try clear ho1)
 obtain ⟨Ao40, co40, eo40⟩ := Kd.S_slice HO417.out
 (first | subst eo40 | (injection eo40 with f1_ f2_ f3_; have f4_ := f1_.symm; have f5_ := f3_.symm; clear f1_ f2_ f3_; subst f4_; subst f5_))
 obtain ⟨Ao41, co41, eo41⟩ := Kd.S_slice HO420.out
 (first | subst eo41 | (injection eo41 with f1_ f2_ f3_; have f4_ := f1_.symm; have f5_ := f3_.symm; clear f1_ f2_ f3_; subst f4_; subst f5_))
 refine hK.out _ _ ⟨(blk_cell BK410.out 0).trans rfl, (blk_cell BK410.out 1).trans rfl, (blk_cell BK393.out 0).trans rfl, (blk_cell BK393.out 1).trans rfl⟩ (fun hHeld => ?_)
 clear hK K
 refine norm_ (a' := ?_) ?_ ?_
 rotate_left
 ·
  show Act.put _ (some 33) _ = _
  simp only [pk, i64_w, i32_w]
  rfl
 refine one_ (i := 3) (N := some 34) #[I, I, I, I, O] rfl rfl (by kernel_rfl) (by decide) (fun K hK => ?_)
 refine goes_ Tryz.func14 (by kernel_rfl) rfl #[.agg #[.slice Ao30 t404.length co30, .slice Ao33 t407.length co33], .agg #[.slice Ao40 t415.length co40, .slice Ao41 t418.length co41]] (by rfl) rfl rfl (by (try simp only [lm]); first | done | rfl | (simp only [List.length_drop, List.length_take]; rfl)) ?_
 with_reducible refine (laws_eqProgram.calls k _ _ t404 _ _ t407 _ _ t415 _ _ t418 true _ ?side1 ?side2 ?side3 ?side4 ?side5 ?side6 ?side7 ?side8 A15.out).mono ?_
 (case side1 => repeat (first | exact (Kd.S_reads' HO406.out).2.2 | (with_reducible refine Kd.C_alloc ?_ _) | (with_reducible refine Kd.C_drewN ?_ _) | (with_reducible refine Kd.C_drew ?_)))
 (case side2 => exact (Kd.S_reads' HO406.out).2.1)
 (case side3 => repeat (first | exact (Kd.S_reads' HO409.out).2.2 | (with_reducible refine Kd.C_alloc ?_ _) | (with_reducible refine Kd.C_drewN ?_ _) | (with_reducible refine Kd.C_drew ?_)))
 (case side4 => exact (Kd.S_reads' HO409.out).2.1)
 (case side5 => repeat (first | exact (Kd.S_reads' HO417.out).2.2 | (with_reducible refine Kd.C_alloc ?_ _) | (with_reducible refine Kd.C_drewN ?_ _) | (with_reducible refine Kd.C_drew ?_)))
 (case side6 => exact (Kd.S_reads' HO417.out).2.1)
 (case side7 => repeat (first | exact (Kd.S_reads' HO420.out).2.2 | (with_reducible refine Kd.C_alloc ?_ _) | (with_reducible refine Kd.C_drewN ?_ _) | (with_reducible refine Kd.C_drew ?_)))
 (case side8 => exact (Kd.S_reads' HO420.out).2.1)
 rintro e w42 ⟨rfl, hb⟩
 refine ⟨_, rfl, ?_⟩
 replace HO397 := As.mk (Kd.S_below (by (with_reducible repeat (first | apply Kd.S_alloc | apply Kd.S_drewN | apply Kd.S_drew)); exact HO397.out) hb)
 replace HO400 := As.mk (Kd.S_below (by (with_reducible repeat (first | apply Kd.S_alloc | apply Kd.S_drewN | apply Kd.S_drew)); exact HO400.out) hb)
 replace HO403 := As.mk (Kd.R_below (by (with_reducible repeat (first | apply Kd.R_alloc | apply Kd.R_drewN | apply Kd.R_drew)); exact HO403.out) hb)
 replace HO406 := As.mk (Kd.S_below (by (with_reducible repeat (first | apply Kd.S_alloc | apply Kd.S_drewN | apply Kd.S_drew)); exact HO406.out) hb)
 replace HO409 := As.mk (Kd.S_below (by (with_reducible repeat (first | apply Kd.S_alloc | apply Kd.S_drewN | apply Kd.S_drew)); exact HO409.out) hb)
 replace HO413 := As.mk (Kd.R_below (by (with_reducible repeat (first | apply Kd.R_alloc | apply Kd.R_drewN | apply Kd.R_drew)); exact HO413.out) hb)
 replace HO417 := As.mk (Kd.S_below (by (with_reducible repeat (first | apply Kd.S_alloc | apply Kd.S_drewN | apply Kd.S_drew)); exact HO417.out) hb)
 replace HO420 := As.mk (Kd.S_below (by (with_reducible repeat (first | apply Kd.S_alloc | apply Kd.S_drewN | apply Kd.S_drew)); exact HO420.out) hb)
 replace BK393 := As.mk (blk_below (bx BK393.out) hb)
 replace BK410 := As.mk (blk_below (bx BK410.out) hb)
 replace HB := As.mk (below_step (be w) hb)
 (try clear hb)
 (try clear hb2)
 (try clear hk)
 (try clear hi)
 refine hK.out _ _ ⟨(blk_cell BK410.out 0).trans rfl, (blk_cell BK410.out 1).trans rfl, (blk_cell BK393.out 0).trans rfl, (blk_cell BK393.out 1).trans rfl⟩ (fun hHeld => ?_)
 clear hK K
 refine norm_ (a' := ?_) ?_ ?_
 rotate_left
 ·
  show Act.put _ (some 34) _ = _
  simp only [pk, i64_w, i32_w]
  rfl
 refine pure_ (i := 4) (N := some 35) (v := ?_) (a' := ?_) #[I, I, I, I, I] rfl rfl (by kernel_rfl) (fun _ _ _ h => h) (Or.inl ⟨by rfl, ?_⟩) ?_ ?_
 rotate_left; · intro w'; go_simp; with_reducible rfl
 rotate_left; · simp only [pk, i64_w, i32_w]; rfl
 refine done_ (by kernel_rfl) ?_
 obtain ⟨hcz43_0, hcz43_1, hfz43_0, hfz43_1⟩ := cl2 BK410.out
 go_upto_region 14 with (first | ((with_reducible refine gate_callee (f := 15) rfl ?_); refine goesL_ (some 38) rfl rfl Tryz.func15 (by kernel_rfl) rfl #[.agg #[.slice Ao30 t404.length co30, .slice Ao33 t407.length co33], .int .i64 1] rfl (by (try simp only [lm]); first | done | rfl | (simp only [List.length_drop, List.length_take]; rfl)) ?_; (with_reducible refine (laws_markProgram.calls _ (.slice Ao30 t404.length co30) t404 _ (.slice Ao33 t407.length co33) t407 1 t422 w _ ?side1 (Kd.S_bound HO406.out) (Kd.S_bound HO409.out) A17.out).mono ?_); (case side1 => repeat (first | (with_reducible first | exact HB.out | apply below_alloc | apply pw_below_drewN | apply below_drew1 | refine below_set ?_ GE393.out | refine below_set ?_ GE410.out) | exact HB.out)); rintro e w44 ⟨rfl, hb, hkp⟩; refine ⟨_, rfl, ?_⟩; replace BK393 := As.mk (blk_kept (bx BK393.out) hkp (fun hs_ => Or.elim hs_ (fun e_ => mkk_tyb e_ (bx BK393.out) (by decide)) (fun e_ => mkk_tyb e_ (bx BK393.out) (by decide)))); replace HO403 := As.mk (Kd.R_mono (ok' := fun k_ => some k_ ≠ (.slice Ao35 t411.length co35 : Value).ownBlock) (mkk_keptT rfl HO403.out hkp (fun k_ hs_ e_ => Or.elim hs_ (fun h_ => by first | exact mkk_tyr h_ (Kd.R_typed HO403.out k_ e_.symm) (by decide) | (replace h_ := h_.1; revert h_; (try simp only [and_imp]); intros; exact absurd e_ (by assumption))) (fun h_ => by first | exact mkk_tyr h_ (Kd.R_typed HO403.out k_ e_.symm) (by decide) | (replace h_ := h_.1; revert h_; (try simp only [and_imp]); intros; exact absurd e_ (by assumption))))) (fun k_ hk_ => by first | exact hk_ | exact hk_.2 | exact hk_.1.2 | (revert hk_; (try simp only [and_imp]); intros; assumption))); replace BK410 := As.mk (blk_kept (bx BK410.out) hkp (fun hs_ => Or.elim hs_ (fun e_ => mkk_tyb e_ (bx BK410.out) (by decide)) (fun e_ => mkk_tyb e_ (bx BK410.out) (by decide)))); replace HO413 := As.mk (Kd.R_mono (ok' := fun k_ => some k_ ≠ (.slice Ao36 t401.length co36 : Value).ownBlock) (mkk_keptT rfl HO413.out hkp (fun k_ hs_ e_ => Or.elim hs_ (fun h_ => by first | exact mkk_tyr h_ (Kd.R_typed HO413.out k_ e_.symm) (by decide) | (replace h_ := h_.1; revert h_; (try simp only [and_imp]); intros; exact absurd e_ (by assumption))) (fun h_ => by first | exact mkk_tyr h_ (Kd.R_typed HO413.out k_ e_.symm) (by decide) | (replace h_ := h_.1; revert h_; (try simp only [and_imp]); intros; exact absurd e_ (by assumption))))) (fun k_ hk_ => by first | exact hk_ | exact hk_.2 | exact hk_.1.2 | (revert hk_; (try simp only [and_imp]); intros; assumption))); replace HB := As.mk (hb); clear HO406 HO409; (try clear hb); (try clear hkp)))
 (try simp only [pk])
 go_cut [46] (fun v46 wc => ∃ (kq : Nat) (x46_17 : Bool), v46 = .bool x46_17 ∧ As (laws_FnExactVarsOf.j0 kq a1 t401 t411 x46_17 l0_0 l0_1 = some r) ∧ As (kq ≤ k) ∧ As (Kd.R k60 60 wc w.heap.size (fun k_ => some k_ ≠ ((.slice Ao35 t411.length co35) : Value).ownBlock) (.slice Ao36 t401.length co36) t401) ∧ As (Kd.R k60 60 wc w.heap.size (fun k_ => some k_ ≠ ((.slice Ao36 t401.length co36) : Value).ownBlock) (.slice Ao35 t411.length co35) t411) ∧ As (wc.heap[gb393]? = some (.cells #[(.slice A0_0 l0_0.length c0_0), (.slice A0_1 l0_1.length c0_1)] 25 (0, 0))) ∧ As (Below w.heap.size w wc))
 case first =>
  have H := HC18.out
  clear HC18
  by_cases c45 : t422 < 0
  ·
   rw [if_pos c45] at H
   have c45b0 : decide (t422 < 0) = true := decide_eq_true c45
   clear c45
   (first | rw [c45b0] | (simp only [i64_w, i32_w]; rw [c45b0]) | skip)
   have H' := As.mk H
   clear H
   go_wp2
   go_meet
   case rel => exact ⟨_, (true), (by first | rfl | (simp; done) | (simp [*]; done)), H', ⟨by first | omega | exact Nat.le_refl _⟩, ⟨by (with_reducible repeat (first | apply Kd.R_alloc | apply Kd.R_drewN | apply Kd.R_drew)); exact HO403.out⟩, ⟨by (with_reducible repeat (first | apply Kd.R_alloc | apply Kd.R_drewN | apply Kd.R_drew)); exact HO413.out⟩, ⟨bx BK393.out⟩, ⟨be w⟩⟩
  rw [if_neg c45] at H
  have c45b0 : decide (t422 < 0) = false := decide_eq_false c45
  clear c45
  (first | rw [c45b0] | (simp only [i64_w, i32_w]; rw [c45b0]) | skip)
  obtain ⟨t423, A460, H⟩ := Option.bind_eq_some_iff.mp H
  try dsimp only at H
  have A46 := As.mk A460
  clear A460
  have H' := As.mk H
  clear H
  go_wp2_with (first | (go_at_call 13; (with_reducible refine (laws_eqVarS.calls k _ _ t411 _ _ t401 t423 _ ?side1 ?side2 ?side3 ?side4 A46.out).mono ?_); (case side1 => repeat (first | exact (Kd.R_reads' HO413.out).2.2 | (with_reducible refine Kd.C_alloc ?_ _) | (with_reducible refine Kd.C_drewN ?_ _) | (with_reducible refine Kd.C_drew ?_))); (case side2 => exact (Kd.R_reads' HO413.out).2.1); (case side3 => repeat (first | exact (Kd.R_reads' HO403.out).2.2 | (with_reducible refine Kd.C_alloc ?_ _) | (with_reducible refine Kd.C_drewN ?_ _) | (with_reducible refine Kd.C_drew ?_))); (case side4 => exact (Kd.R_reads' HO403.out).2.1); rintro e w47 ⟨rfl, hb⟩; replace HO403 := As.mk (Kd.R_below (by (with_reducible repeat (first | apply Kd.R_alloc | apply Kd.R_drewN | apply Kd.R_drew)); exact HO403.out) hb); replace HO413 := As.mk (Kd.R_below (by (with_reducible repeat (first | apply Kd.R_alloc | apply Kd.R_drewN | apply Kd.R_drew)); exact HO413.out) hb); replace BK393 := As.mk (blk_below (bx BK393.out) hb); replace BK410 := As.mk (blk_below (bx BK410.out) hb); replace HB := As.mk (below_step (be w) hb); (try clear hb); (try clear hb2); (try clear hk); (try clear hi)))
  go_meet
  case rel => exact ⟨_, (!t423), (by first | rfl | (simp; done) | (simp [*]; done)), H', ⟨by first | omega | exact Nat.le_refl _⟩, ⟨by (with_reducible repeat (first | apply Kd.R_alloc | apply Kd.R_drewN | apply Kd.R_drew)); exact HO403.out⟩, ⟨by (with_reducible repeat (first | apply Kd.R_alloc | apply Kd.R_drewN | apply Kd.R_drew)); exact HO413.out⟩, ⟨bx BK393.out⟩, ⟨be w⟩⟩
 case rest =>
  clear HC18
  (try clear c4); (try clear c4b0); (try clear c13); (try clear c16); (try clear hcz20_0); (try clear hcz20_1); (try clear hcz22_0); (try clear hcz22_1); (try clear hcz27_0); (try clear hcz27_1); (try clear hcz32_0); (try clear hcz32_1); (try clear hcz43_0); (try clear hcz43_1); (try clear hfz20_0); (try clear hfz20_1); (try clear hfz22_0); (try clear hfz22_1); (try clear hfz27_0); (try clear hfz27_1); (try clear hfz32_0); (try clear hfz32_1); (try clear hfz43_0); (try clear hfz43_1)
  obtain ⟨kq, x46_17, rfl, HA, HJ17, HO_6, HO_8, BK393, HB⟩ := hcut
  cases kq with
  | zero => exact absurd HA.out (by simp [laws_FnExactVarsOf.j0])
  | succ kj17 =>
   have H := HA.out
   clear HA
   simp only [laws_FnExactVarsOf.j0] at H
   by_cases c48 : x46_17 = true
   ·
    subst c48
    rw [if_pos rfl] at H
    exact absurd H (by rw [hrt.out]; simp)
   replace c48 := Bool.eq_false_iff.mpr c48
   subst c48
   rw [if_neg (show ¬ (false = true) by decide)] at H
   obtain ⟨⟨t424, t425⟩, A490, H⟩ := Option.bind_eq_some_iff.mp H
   try dsimp only at H
   have A49 := As.mk A490
   clear A490
   obtain ⟨t426, A500, H⟩ := Option.bind_eq_some_iff.mp H
   try dsimp only at H
   have A50 := As.mk A500
   clear A500
   by_cases c51 : t426 < 0
   ·
    rw [if_pos c51] at H
    have c51b0 : decide (t426 < 0) = true := decide_eq_true c51
    clear c51
    exact absurd H (by rw [hrt.out]; simp)
   rw [if_neg c51] at H
   have c51b0 : decide (t426 < 0) = false := decide_eq_false c51
   clear c51
   by_cases c52 : t426 = t424
   rotate_left
   ·
    rw [if_neg c52] at H
    have c52b0 : (t426 == t424) = false := beq_eq_false_iff_ne.mpr c52
    have c52b1 : (t426 != t424) = true := bne_iff_ne.mpr c52
    exact absurd H (by rw [hrt.out]; simp)
   rw [if_pos c52] at H
   have c52b0 : (t426 == t424) = true := beq_iff_eq.mpr c52
   have c52b1 : (t426 != t424) = false := bne_eq_false_iff_eq.mpr c52
   clear c52
   obtain ⟨⟨t427, t430⟩, A530, H⟩ := Option.bind_eq_some_iff.mp H
   try dsimp only at H
   have A53 := As.mk A530
   clear A530
   obtain ⟨t433, A540, H⟩ := Option.bind_eq_some_iff.mp H
   try dsimp only at H
   have A54 := As.mk A540
   clear A540
   obtain ⟨t436, A550, H⟩ := Option.bind_eq_some_iff.mp H
   try dsimp only at H
   have A55 := As.mk A550
   clear A550
   by_cases c56 : t436 = true
   rotate_left
   ·
    replace c56 := Bool.eq_false_iff.mpr c56
    subst c56
    rw [if_neg (show ¬ (false = true) by decide)] at H
    exact absurd H (by rw [hrt.out]; simp)
   subst c56
   rw [if_pos rfl] at H
   obtain ⟨t437, A570, H⟩ := Option.bind_eq_some_iff.mp H
   try dsimp only at H
   have A57 := As.mk A570
   clear A570
   by_cases c58 : t437 < 0
   ·
    rw [if_pos c58] at H
    have c58b0 : decide (t437 < 0) = true := decide_eq_true c58
    clear c58
    exact absurd H (by rw [hrt.out]; simp)
   rw [if_neg c58] at H
   have c58b0 : decide (t437 < 0) = false := decide_eq_false c58
   clear c58
   by_cases c59 : t437 = t424
   rotate_left
   ·
    rw [if_neg c59] at H
    have c59b0 : (t437 == t424) = false := beq_eq_false_iff_ne.mpr c59
    have c59b1 : (t437 != t424) = true := bne_iff_ne.mpr c59
    exact absurd H (by rw [hrt.out]; simp)
   rw [if_pos c59] at H
   have c59b0 : (t437 == t424) = true := beq_iff_eq.mpr c59
   have c59b1 : (t437 != t424) = false := bne_eq_false_iff_eq.mpr c59
   clear c59
   obtain rfl := Option.some.inj H
   go_wp2_with (first | ((with_reducible refine gate_callee (f := 16) rfl ?_); refine goesL_ (some 49) rfl rfl Tryz.func16 (by kernel_rfl) rfl #[.slice Ao35 t411.length co35, .int .i64 1] rfl (by (try simp only [lm]); first | done | rfl | (simp only [List.length_drop, List.length_take]; rfl)) ?_; (with_reducible refine (laws_markVarS.calls kj17 (fun k_ => some k_ = (.slice Ao35 t411.length co35 : Value).ownBlock) (.slice Ao35 t411.length co35) t411 1 t424 t425 w _ ?side1 ?side2 A49.out).mono ?_); (case side1 => repeat (first | (with_reducible first | exact HB.out | apply below_alloc | apply pw_below_drewN | apply below_drew1 | refine below_set ?_ GE393.out) | exact HB.out)); (case side2 => exact Kd.R_tight rfl HO_8.out); rintro e w60 ⟨rfl, hy0, hb, hkp⟩; refine ⟨_, rfl, ?_⟩; replace HO_6 := As.mk (Kd.R_mono (ok' := fun k_ => some k_ ≠ (.slice Ao35 t411.length co35 : Value).ownBlock) (Kd.R_keptB (HO_6.out) hkp (fun k_ hk_ hs_ => (hk_) hs_)) (fun k_ hk_ => hk_.1)); replace BK393 := As.mk (blk_kept (bx BK393.out) hkp (fun hs_ => (fun e_ => (Kd.R_ne HO_8.out BK393.out (by decide)) e_) hs_)); replace HO_8 := As.mk (Kd.R_reok rfl hy0 (fun k_ e_ => HO_8.out.1 k_ e_)); replace HB := As.mk (hb); (try clear hb); (try clear hkp); (try clear hy0)) | ((with_reducible refine gate_callee (f := 17) rfl ?_); refine goesL_ (some 52) rfl rfl Tryz.func17 (by kernel_rfl) rfl #[.slice Ao35 t425.length co35, .int .i64 1] rfl (by (try simp only [lm]); first | done | (rw [show t425.length = t411.length from (Kd.R_reads' HO_8.out).1.symm] <;> rfl) | rfl | (simp only [List.length_drop, List.length_take]; rfl)) ?_; (with_reducible refine (laws_heldVarS.calls kj17 _ _ t425 1 t426 _ ?side1 ?side2 A50.out).mono ?_); (case side1 => repeat (first | exact (Kd.R_reads' HO_8.out).2.2 | (with_reducible refine Kd.C_alloc ?_ _) | (with_reducible refine Kd.C_drewN ?_ _) | (with_reducible refine Kd.C_drew ?_))); (case side2 => rw [show t425.length = t411.length from (Kd.R_reads' HO_8.out).1.symm]; exact (Kd.R_reads' HO_8.out).2.1); rintro e w61 ⟨rfl, hb⟩; refine ⟨_, rfl, ?_⟩; replace HO_6 := As.mk (Kd.R_below (by (with_reducible repeat (first | apply Kd.R_alloc | apply Kd.R_drewN | apply Kd.R_drew)); exact HO_6.out) hb); replace HO_8 := As.mk (Kd.R_below (by (with_reducible repeat (first | apply Kd.R_alloc | apply Kd.R_drewN | apply Kd.R_drew)); exact HO_8.out) hb); replace BK393 := As.mk (blk_below (bx BK393.out) hb); replace HB := As.mk (below_step (be w) hb); (try clear hb); (try clear hb2); (try clear hk); (try clear hi); obtain ⟨hcz62_0, hcz62_1, hfz62_0, hfz62_1⟩ := cl2 BK393.out) | ((with_reducible refine gate_callee (f := 11) rfl ?_); refine goesL_ (some 59) rfl rfl Tryz.func11 (by kernel_rfl) rfl #[.agg #[.slice A0_0 l0_0.length c0_0, .slice A0_1 l0_1.length c0_1]] rfl (by (try simp only [lm]); first | done | rfl | (simp only [List.length_drop, List.length_take]; rfl)) ?_; (with_reducible refine (laws_toProgram.calls kj17 _ _ l0_0 _ _ l0_1 t427 t430 _ ?side1 ?side2 ?side3 ?side4 A53.out).mono ?_); (case side1 => exact Kd.C_below HR0_0.out (be w)); (case side2 => exact HC0_0.out); (case side3 => exact Kd.C_below HR0_1.out (be w)); (case side4 => exact HC0_1.out); rintro e w63 ⟨v428, v431, rfl, ho0, ho1, hb⟩; refine ⟨_, rfl, ?_⟩; replace HO_6 := As.mk (Kd.R_below (by (with_reducible repeat (first | apply Kd.R_alloc | apply Kd.R_drewN | apply Kd.R_drew)); exact HO_6.out) hb); replace HO_8 := As.mk (Kd.R_below (by (with_reducible repeat (first | apply Kd.R_alloc | apply Kd.R_drewN | apply Kd.R_drew)); exact HO_8.out) hb); have HO429 := As.mk (Kd.S_lower ho0 (below_size (be w))); have HO432 := As.mk (Kd.S_lower ho1 (below_size (be w))); replace HB := As.mk (below_step (be w) hb); (try clear hb); (try clear hb2); (try clear hk); (try clear hi); (try clear ho0); (try clear ho1); obtain ⟨Ao64, co64, eo64⟩ := Kd.S_slice HO429.out; subst eo64; obtain ⟨Ao65, co65, eo65⟩ := Kd.S_slice HO432.out; subst eo65) | ((with_reducible refine gate_callee (f := 12) rfl ?_); refine goesL_ (some 61) rfl rfl Tryz.func12 (by kernel_rfl) rfl #[.agg #[.slice Ao64 t427.length co64, .slice Ao65 t430.length co65], .int .i64 a1] rfl (by (try simp only [lm]); first | done | rfl | (simp only [List.length_drop, List.length_take]; rfl)) ?_; (with_reducible refine (impl_VarsOf.calls kj17 _ _ t427 _ _ t430 a1 t433 _ ?side1 ?side2 ?side3 ?side4 A54.out).mono ?_); (case side1 => repeat (first | exact (Kd.S_reads' HO429.out).2.2 | (with_reducible refine Kd.C_alloc ?_ _) | (with_reducible refine Kd.C_drewN ?_ _) | (with_reducible refine Kd.C_drew ?_))); (case side2 => exact (Kd.S_reads' HO429.out).2.1); (case side3 => repeat (first | exact (Kd.S_reads' HO432.out).2.2 | (with_reducible refine Kd.C_alloc ?_ _) | (with_reducible refine Kd.C_drewN ?_ _) | (with_reducible refine Kd.C_drew ?_))); (case side4 => exact (Kd.S_reads' HO432.out).2.1); rintro e w66 ⟨v434, rfl, ho0, hb⟩; refine ⟨_, rfl, ?_⟩; replace HO429 := As.mk (Kd.S_below (by (with_reducible repeat (first | apply Kd.S_alloc | apply Kd.S_drewN | apply Kd.S_drew)); exact HO429.out) hb); replace HO432 := As.mk (Kd.S_below (by (with_reducible repeat (first | apply Kd.S_alloc | apply Kd.S_drewN | apply Kd.S_drew)); exact HO432.out) hb); have HO435 := As.mk (Kd.R_lower (Kd.R_new' (Kd.R_new' ho0 (Kd.R_lt (by (with_reducible repeat (first | apply Kd.R_alloc | apply Kd.R_drewN | apply Kd.R_drew)); exact HO_6.out))) (Kd.R_lt (by (with_reducible repeat (first | apply Kd.R_alloc | apply Kd.R_drewN | apply Kd.R_drew)); exact HO_8.out))) (below_size (be w))); replace HO_6 := As.mk (Kd.R_elder' (by (with_reducible repeat (first | apply Kd.R_alloc | apply Kd.R_drewN | apply Kd.R_drew)); exact HO_6.out) (Kd.R_base ho0) hb); replace HO_8 := As.mk (Kd.R_elder' (by (with_reducible repeat (first | apply Kd.R_alloc | apply Kd.R_drewN | apply Kd.R_drew)); exact HO_8.out) (Kd.R_base ho0) hb); replace HB := As.mk (below_step (be w) hb); (try clear hb); (try clear hb2); (try clear hk); (try clear hi); (try clear ho0); obtain ⟨Ao67, co67, eo67⟩ := Kd.R_slice HO435.out; subst eo67) | ((with_reducible refine gate_callee (f := 13) rfl ?_); refine goesL_ (some 64) rfl rfl Tryz.func13 (by kernel_rfl) rfl #[.slice Ao67 t433.length co67, .slice Ao36 t401.length co36] rfl (by (try simp only [lm]); first | done | rfl | (simp only [List.length_drop, List.length_take]; rfl)) ?_; (with_reducible refine (laws_eqVarS.calls kj17 _ _ t433 _ _ t401 true _ ?side1 ?side2 ?side3 ?side4 A55.out).mono ?_); (case side1 => repeat (first | exact (Kd.R_reads' HO435.out).2.2 | (with_reducible refine Kd.C_alloc ?_ _) | (with_reducible refine Kd.C_drewN ?_ _) | (with_reducible refine Kd.C_drew ?_))); (case side2 => exact (Kd.R_reads' HO435.out).2.1); (case side3 => repeat (first | exact (Kd.R_reads' HO_6.out).2.2 | (with_reducible refine Kd.C_alloc ?_ _) | (with_reducible refine Kd.C_drewN ?_ _) | (with_reducible refine Kd.C_drew ?_))); (case side4 => exact (Kd.R_reads' HO_6.out).2.1); rintro e w68 ⟨rfl, hb⟩; refine ⟨_, rfl, ?_⟩; replace HO_6 := As.mk (Kd.R_below (by (with_reducible repeat (first | apply Kd.R_alloc | apply Kd.R_drewN | apply Kd.R_drew)); exact HO_6.out) hb); replace HO_8 := As.mk (Kd.R_below (by (with_reducible repeat (first | apply Kd.R_alloc | apply Kd.R_drewN | apply Kd.R_drew)); exact HO_8.out) hb); replace HO435 := As.mk (Kd.R_below (by (with_reducible repeat (first | apply Kd.R_alloc | apply Kd.R_drewN | apply Kd.R_drew)); exact HO435.out) hb); replace HB := As.mk (below_step (be w) hb); (try clear hb); (try clear hb2); (try clear hk); (try clear hi)) | ((with_reducible refine gate_callee (f := 17) rfl ?_); refine goesL_ (some 68) rfl rfl Tryz.func17 (by kernel_rfl) rfl #[.slice Ao35 t425.length co35, .int .i64 1] rfl (by (try simp only [lm]); first | done | (rw [show t425.length = t411.length from (Kd.R_reads' HO_8.out).1.symm] <;> rfl) | rfl | (simp only [List.length_drop, List.length_take]; rfl)) ?_; (with_reducible refine (laws_heldVarS.calls kj17 _ _ t425 1 t437 _ ?side1 ?side2 A57.out).mono ?_); (case side1 => repeat (first | exact (Kd.R_reads' HO_8.out).2.2 | (with_reducible refine Kd.C_alloc ?_ _) | (with_reducible refine Kd.C_drewN ?_ _) | (with_reducible refine Kd.C_drew ?_))); (case side2 => rw [show t425.length = t411.length from (Kd.R_reads' HO_8.out).1.symm]; exact (Kd.R_reads' HO_8.out).2.1); rintro e w69 ⟨rfl, hb⟩; refine ⟨_, rfl, ?_⟩; replace HO_8 := As.mk (Kd.R_below (by (with_reducible repeat (first | apply Kd.R_alloc | apply Kd.R_drewN | apply Kd.R_drew)); exact HO_8.out) hb); replace HB := As.mk (below_step (be w) hb); (try clear hb); (try clear hb2); (try clear hk); (try clear hi)))
   go_ret
   exact ⟨ez, be w⟩
end Go.Proofs.YtcoapbnbakmkoaaGreatDoor.PFnExactVarsOf
