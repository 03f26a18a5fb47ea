/- Written by a program of this session (a turned copy of the kit's print): a contract for each Go function. No condition beside those in each statement. -/
import Derived.Test.YtnepkmbknoanjaaPFnExactPackedx0
import Derived.Test.YtnepkmbknoanjaaPFnExactPackedx3
namespace Go.Proofs.Ytnepkmbknoanjaa.PFnExactPacked
open Go.RowKit Go.Proofs.YtnepkmbknoanjaaW.PrintWords Go.Proofs.YtnepkmbknoanjaaW.PrintLast Go.Proofs.YtnepkmbknoanjaaW.PrintMore
attribute [local go_sem] max2_int min2_int max_two min_two max_three min_three max_four min_four   -- for this text's walks alone
set_option linter.unusedVariables false
set_option linter.unusedSimpArgs false

/-! ### laws_heldParamS: function 36 -/
def laws_heldParamS.l0 : Nat → List (S80) → Int → Int → Option (Int)
 | 0, _, _, _ => none
 | k + 1, x0, x1, x5 => if x5 < (x0.length : Int) then (if 0 ≤ x5 then ((laws_markText.f k x1).bind fun t233 => (if ((rd_T80 x0 x5).f0).toList = t233.toList then (if ((rd_T80 x0 x5).f1) = (wrap64 (x1 + 1)) then (laws_heldParamS.l0 k x0 (wrap64 ((wrap64 (x1 + 1)) + 1)) (wrap64 (x5 + 1))) else (some (-1))) else (some (-1)))) else (none)) else (some x1)
def laws_heldParamS.f (k : Nat) (l0 : List (S80)) (a1 : Int) : Option (Int) := laws_heldParamS.l0 k l0 a1 0
theorem laws_heldParamS.mono_l : ∀ k, (∀ y0 y1 y2, LeO (laws_heldParamS.l0 k y0 y1 y2) (laws_heldParamS.l0 (k + 1) y0 y1 y2))
 | 0 => fun _ _ _ r h => by simp [laws_heldParamS.l0] at h
 | k + 1 => by
  have ih0 := laws_heldParamS.mono_l k
  ·
   intro y0 y1 y2
   unfold laws_heldParamS.l0
   with_reducible repeat' first | exact ih0 _ _ _ | exact laws_markText.mono _ _ | exact LeO.refl _ | exact LeO.none _ | refine LeO.ite ?_ ?_ | refine LeO.bind ?_ (fun _ => ?_)
theorem laws_heldParamS.mono : ∀ a0 a1 k, LeO (laws_heldParamS.f k a0 a1) (laws_heldParamS.f (k + 1) a0 a1) := by
 intro a0 a1 k
 have ih0 := laws_heldParamS.mono_l k
 unfold laws_heldParamS.f
 with_reducible repeat' first | exact ih0 _ _ _ | exact laws_markText.mono _ _ | exact LeO.refl _ | exact LeO.none _ | refine LeO.ite ?_ ?_ | refine LeO.bind ?_ (fun _ => ?_)
def laws_heldParamS.T4 : Bool × List (List Nat × List Nat) := (true, [([], []), ([], []), ([0, 1], [0, 1]), ([2], [2]), ([3], [3]), ([], []), ([5], [5]), ([4, 6], [4, 6])])
def laws_heldParamS.B4 : List Nat := [0, 0, 3, 7, 15, 0, 32, 127]
theorem laws_heldParamS.tab4 : rtab .any (opsOf Try.f36 4) = laws_heldParamS.T4 := by kernel_rfl
theorem laws_heldParamS.bits4 : waitsOk laws_heldParamS.T4.2 laws_heldParamS.B4 = true := by kernel_rfl
set_option maxHeartbeats 8000000 in
set_option maxRecDepth 100000 in
theorem laws_heldParamS.calls (k : Nat) (A0 : Option Addr) (c0 : Nat) (l0 : List (S80)) (a1 : Int) (r : Int) (w : World) (hr0 : Kd.C k80 w A0 l0.length l0) (hc0 : l0.length ≤ c0) (h : laws_heldParamS.f k l0 a1 = some r) :
  Calls Try.prog 36 #[.slice A0 l0.length c0, .int .i64 a1] w fun e w' => e = .returned (.int .i64 r) ∧ Below w.heap.size w w' := by
 have HR0 := As.mk hr0
 have HC0 := As.mk hc0
 clear hr0 hc0
 have HB := As.mk (Below.refl w.heap.size w)
 have H : (laws_heldParamS.l0 k l0 a1 0) = some r := h
 clear h
 have H' := As.mk H
 clear H
 go_enter Try.func36, Try.ntmps36
 go_wp2
 go_loopg [1, 5] k (fun kq v1 v5 w' => ∃ (x1_1 : Int) (x5_1 : Int), v1 = .int .i64 x1_1 ∧ v5 = .int .i64 x5_1 ∧ As (laws_heldParamS.l0 kq l0 x1_1 x5_1 = some r) ∧ As (kq ≤ k) ∧ As (Below w.heap.size w w'))
 case atStart => exact ⟨(a1), (0), (by first | rfl | (simp; done) | (simp [*]; done)), (by first | rfl | (simp; done) | (simp [*]; done)), H', ⟨Nat.le_refl _⟩, ⟨be w⟩⟩
 case round =>
  clear H'
  obtain ⟨x1_1, x5_1, rfl, rfl, HA, HK1, HB⟩ := hrel
  cases gk with
  | zero => exact absurd HA.out (by simp [laws_heldParamS.l0])
  | succ k1 =>
   have H := HA.out
   clear HA
   simp only [laws_heldParamS.l0] at H
   by_cases c3 : x5_1 < (l0.length : Int)
   rotate_left
   ·
    rw [if_neg c3] at H
    have c3b0 : decide (x5_1 < (l0.length : Int)) = false := decide_eq_false c3
    clear c3
    obtain rfl := Option.some.inj H
    go_wp2
    go_ret
    exact ⟨ez, be w⟩

   rw [if_pos c3] at H
   have c3b0 : decide (x5_1 < (l0.length : Int)) = true := decide_eq_true c3
   clear c3
   by_cases c4 : 0 ≤ x5_1
   rotate_left; · rw [if_neg c4] at H; exact absurd H (by simp)
   rw [if_pos c4] at H
   have c4b0 : decide (0 ≤ x5_1) = true := decide_eq_true c4
   clear c4
   obtain ⟨t233, A50, H⟩ := Option.bind_eq_some_iff.mp H
   try dsimp only at H
   have A5 := As.mk A50
   clear A50
   by_cases c6 : ((rd_T80 l0 x5_1).f0).toList = t233.toList
   rotate_left
   ·
    rw [if_neg c6] at H
    have c6b0 : (((rd_T80 l0 x5_1).f0).toList == t233.toList) = false := beq_eq_false_iff_ne.mpr c6
    have c6b1 : (((rd_T80 l0 x5_1).f0).toList != t233.toList) = true := bne_iff_ne.mpr c6
    obtain rfl := Option.some.inj H
    try go_wp2
    replace HB := As.mk (below_drew1 HB.out)
    have p232 : 0 ≤ (x5_1 : Int) := od
    have q232 : x5_1 < (l0.length : Int) := od
    obtain ⟨ad232, e232, hx232_0, hx232_1⟩ := at_T80 HR0.out x5_1 p232 q232
    have hw232_1 := hx232_1
    have hw232_0 := hx232_0
    cases e232
    replace hx232_0 := ce HB.out hx232_0
    replace hx232_1 := ce HB.out hx232_1
    replace p232 := eq_true p232
    replace q232 := eq_true q232
    refine start_ (n := 8) (S := fun w' => w'.cell? (ad232.add ((x5_1).toNat * 2)) = some (.string ((rd_T80 l0 x5_1).f0)) ∧ w'.cell? ⟨(ad232.add ((x5_1).toNat * 2)).block, (ad232.add ((x5_1).toNat * 2)).off + 1, none⟩ = some (.int .i64 ((rd_T80 l0 x5_1).f1))) (ds := []) #[O, O, O, O, O, O, O, O] (by kernel_rfl) rfl rfl ⟨(ce HB.out hw232_0 :), (ce HB.out hw232_1 :)⟩ (fun hHeld => ?_); refine with_tabW laws_heldParamS.tab4 laws_heldParamS.bits4 (fun HT_ HW_ => ?_)
    generalize wr.drew = w12 at HB hx232_0 hx232_1 hHeld ⊢
    refine pure_ (i := 0) (N := some 12) (v := ?_) (a' := ?_) #[I, O, O, O, O, O, O, O] rfl rfl (any_of HT_.out (by kernel_rfl)) (fun _ _ _ h => h) (Or.inl ⟨by rfl, ?_⟩) ?_ ?_
    rotate_left; · intro w'; go_simp; with_reducible rfl
    rotate_left; · simp only [pk, i64_w, i32_w]; rfl
    refine pure_ (i := 1) (N := some 13) (v := ?_) (a' := ?_) #[I, I, O, O, O, O, O, O] rfl rfl (any_of HT_.out (by kernel_rfl)) (fun _ _ _ h => h) (Or.inl ⟨by rfl, ?_⟩) ?_ ?_
    rotate_left; · intro w'; go_simp; with_reducible rfl
    rotate_left; · simp only [pk, i64_w, i32_w]; rfl
    refine pure_ (i := 2) (N := some 14) (v := ?_) (a' := ?_) #[I, I, I, O, O, O, O, O] rfl rfl (any_of HT_.out (by kernel_rfl)) (fun _ _ _ h => h) (Or.inl ⟨by rfl, ?_⟩) ?_ ?_
    rotate_left; · intro w'; go_simp; with_reducible rfl
    rotate_left; · simp only [pk, i64_w, i32_w]; rfl
    refine pure_ (i := 3) (N := some 15) (v := ?_) (a' := ?_) #[I, I, I, I, O, O, O, O] rfl rfl (any_of HT_.out (by kernel_rfl)) (fun _ _ _ h => h) (Or.inl ⟨by rfl, ?_⟩) ?_ ?_
    rotate_left; · intro w'; go_simp; with_reducible rfl
    rotate_left; · simp only [pk, i64_w, i32_w]; rfl
    refine pure_ (i := 5) (N := some 17) (v := ?_) (a' := ?_) #[I, I, I, I, O, I, O, O] rfl rfl (any_of HT_.out (by kernel_rfl)) (fun _ _ _ h => h) (Or.inl ⟨by rfl, ?_⟩) ?_ ?_
    rotate_left; · intro w'; go_simp; with_reducible rfl
    rotate_left; · simp only [pk, i64_w, i32_w]; rfl
    refine take_ (i := 4) (N := some 16) (v := ?_) (a' := ?_) #[I, I, I, I, I, I, O, O] rfl rfl (take_ofW HT_.out HW_.out (by kernel_rfl)) (fun _ _ _ h => h) (Or.inl ⟨by rfl, ?_⟩) hHeld ?_ ?_
    rotate_left; · rintro w' ⟨s0, s1⟩; go_simp; with_reducible rfl
    rotate_left; · simp only [pk, i64_w, i32_w]; rfl
    refine one_ (i := 6) (N := some 18) #[I, I, I, I, I, I, I, O] rfl rfl (one_of HT_.out (by kernel_rfl)) (by decide) (fun K hK => ?_)
    refine goes_ Try.func32 (by kernel_rfl) rfl #[.int .i64 x1_1] (by rfl) rfl rfl (by (try simp only [lm]); first | done | rfl | (simp only [List.length_drop, List.length_take]; rfl)) ?_
    with_reducible refine (laws_markText.calls k1 x1_1 t233 _ A5.out).mono ?_
    rintro e w13 ⟨rfl, hb⟩
    refine ⟨_, rfl, ?_⟩
    replace HB := As.mk (below_step (be w) hb)
    (try clear hb)
    (try clear hb2)
    (try clear hk)
    (try clear hi)
    refine hK.out _ _ ⟨(ce HB.out hw232_0 :), (ce HB.out hw232_1 :)⟩ (fun hHeld => ?_)
    clear hK K
    refine norm_ (a' := ?_) ?_ ?_
    rotate_left
    ·
     show Act.put _ (some 18) _ = _
     simp only [pk, i64_w, i32_w]
     rfl
    refine pure_ (i := 7) (N := some 19) (v := ?_) (a' := ?_) #[I, I, I, I, I, I, I, I] rfl rfl (any_of HT_.out (by kernel_rfl)) (fun _ _ _ h => h) (Or.inl ⟨by rfl, ?_⟩) ?_ ?_
    rotate_left; · intro w'; go_simp; with_reducible rfl
    rotate_left; · simp only [pk, i64_w, i32_w]; rfl
    refine done_ (done_of HT_.out (by kernel_rfl)) ?_
    try go_wp2
    go_ret
    exact ⟨ez, be w⟩
   rw [if_pos c6] at H
   have c6b0 : (((rd_T80 l0 x5_1).f0).toList == t233.toList) = true := beq_iff_eq.mpr c6
   have c6b1 : (((rd_T80 l0 x5_1).f0).toList != t233.toList) = false := bne_eq_false_iff_eq.mpr c6
   clear c6
   by_cases c7 : ((rd_T80 l0 x5_1).f1) = (wrap64 (x1_1 + 1))
   rotate_left
   ·
    rw [if_neg c7] at H
    have c7b0 : (((rd_T80 l0 x5_1).f1) == (wrap64 (x1_1 + 1))) = false := beq_eq_false_iff_ne.mpr c7
    have c7b1 : (((rd_T80 l0 x5_1).f1) != (wrap64 (x1_1 + 1))) = true := bne_iff_ne.mpr c7
    obtain rfl := Option.some.inj H
    try go_wp2
    replace HB := As.mk (below_drew1 HB.out)
    have p232 : 0 ≤ (x5_1 : Int) := od
    have q232 : x5_1 < (l0.length : Int) := od
    obtain ⟨ad232, e232, hx232_0, hx232_1⟩ := at_T80 HR0.out x5_1 p232 q232
    have hw232_1 := hx232_1
    have hw232_0 := hx232_0
    cases e232
    replace hx232_0 := ce HB.out hx232_0
    replace hx232_1 := ce HB.out hx232_1
    replace p232 := eq_true p232
    replace q232 := eq_true q232
    refine start_ (n := 8) (S := fun w' => w'.cell? (ad232.add ((x5_1).toNat * 2)) = some (.string ((rd_T80 l0 x5_1).f0)) ∧ w'.cell? ⟨(ad232.add ((x5_1).toNat * 2)).block, (ad232.add ((x5_1).toNat * 2)).off + 1, none⟩ = some (.int .i64 ((rd_T80 l0 x5_1).f1))) (ds := []) #[O, O, O, O, O, O, O, O] (by kernel_rfl) rfl rfl ⟨(ce HB.out hw232_0 :), (ce HB.out hw232_1 :)⟩ (fun hHeld => ?_); refine with_tabW laws_heldParamS.tab4 laws_heldParamS.bits4 (fun HT_ HW_ => ?_)
    generalize wr.drew = w10 at HB hx232_0 hx232_1 hHeld ⊢
    refine pure_ (i := 0) (N := some 12) (v := ?_) (a' := ?_) #[I, O, O, O, O, O, O, O] rfl rfl (any_of HT_.out (by kernel_rfl)) (fun _ _ _ h => h) (Or.inl ⟨by rfl, ?_⟩) ?_ ?_
    rotate_left; · intro w'; go_simp; with_reducible rfl
    rotate_left; · simp only [pk, i64_w, i32_w]; rfl
    refine pure_ (i := 1) (N := some 13) (v := ?_) (a' := ?_) #[I, I, O, O, O, O, O, O] rfl rfl (any_of HT_.out (by kernel_rfl)) (fun _ _ _ h => h) (Or.inl ⟨by rfl, ?_⟩) ?_ ?_
    rotate_left; · intro w'; go_simp; with_reducible rfl
    rotate_left; · simp only [pk, i64_w, i32_w]; rfl
    refine pure_ (i := 2) (N := some 14) (v := ?_) (a' := ?_) #[I, I, I, O, O, O, O, O] rfl rfl (any_of HT_.out (by kernel_rfl)) (fun _ _ _ h => h) (Or.inl ⟨by rfl, ?_⟩) ?_ ?_
    rotate_left; · intro w'; go_simp; with_reducible rfl
    rotate_left; · simp only [pk, i64_w, i32_w]; rfl
    refine pure_ (i := 3) (N := some 15) (v := ?_) (a' := ?_) #[I, I, I, I, O, O, O, O] rfl rfl (any_of HT_.out (by kernel_rfl)) (fun _ _ _ h => h) (Or.inl ⟨by rfl, ?_⟩) ?_ ?_
    rotate_left; · intro w'; go_simp; with_reducible rfl
    rotate_left; · simp only [pk, i64_w, i32_w]; rfl
    refine pure_ (i := 5) (N := some 17) (v := ?_) (a' := ?_) #[I, I, I, I, O, I, O, O] rfl rfl (any_of HT_.out (by kernel_rfl)) (fun _ _ _ h => h) (Or.inl ⟨by rfl, ?_⟩) ?_ ?_
    rotate_left; · intro w'; go_simp; with_reducible rfl
    rotate_left; · simp only [pk, i64_w, i32_w]; rfl
    refine take_ (i := 4) (N := some 16) (v := ?_) (a' := ?_) #[I, I, I, I, I, I, O, O] rfl rfl (take_ofW HT_.out HW_.out (by kernel_rfl)) (fun _ _ _ h => h) (Or.inl ⟨by rfl, ?_⟩) hHeld ?_ ?_
    rotate_left; · rintro w' ⟨s0, s1⟩; go_simp; with_reducible rfl
    rotate_left; · simp only [pk, i64_w, i32_w]; rfl
    refine one_ (i := 6) (N := some 18) #[I, I, I, I, I, I, I, O] rfl rfl (one_of HT_.out (by kernel_rfl)) (by decide) (fun K hK => ?_)
    refine goes_ Try.func32 (by kernel_rfl) rfl #[.int .i64 x1_1] (by rfl) rfl rfl (by (try simp only [lm]); first | done | rfl | (simp only [List.length_drop, List.length_take]; rfl)) ?_
    with_reducible refine (laws_markText.calls k1 x1_1 t233 _ A5.out).mono ?_
    rintro e w11 ⟨rfl, hb⟩
    refine ⟨_, rfl, ?_⟩
    replace HB := As.mk (below_step (be w) hb)
    (try clear hb)
    (try clear hb2)
    (try clear hk)
    (try clear hi)
    refine hK.out _ _ ⟨(ce HB.out hw232_0 :), (ce HB.out hw232_1 :)⟩ (fun hHeld => ?_)
    clear hK K
    refine norm_ (a' := ?_) ?_ ?_
    rotate_left
    ·
     show Act.put _ (some 18) _ = _
     simp only [pk, i64_w, i32_w]
     rfl
    refine pure_ (i := 7) (N := some 19) (v := ?_) (a' := ?_) #[I, I, I, I, I, I, I, I] rfl rfl (any_of HT_.out (by kernel_rfl)) (fun _ _ _ h => h) (Or.inl ⟨by rfl, ?_⟩) ?_ ?_
    rotate_left; · intro w'; go_simp; with_reducible rfl
    rotate_left; · simp only [pk, i64_w, i32_w]; rfl
    refine done_ (done_of HT_.out (by kernel_rfl)) ?_
    have p234 : 0 ≤ (x5_1 : Int) := od
    have q234 : x5_1 < (l0.length : Int) := od
    obtain ⟨ad234, e234, hx234_0, hx234_1⟩ := at_T80 HR0.out x5_1 p234 q234
    obtain rfl : ad232 = ad234 := (by injection e234)
    replace hx234_0 := ce HB.out hx234_0
    replace hx234_1 := ce HB.out hx234_1
    replace p234 := eq_true p234
    replace q234 := eq_true q234
    try go_wp2
    go_ret
    exact ⟨ez, be w⟩
   rw [if_pos c7] at H
   have c7b0 : (((rd_T80 l0 x5_1).f1) == (wrap64 (x1_1 + 1))) = true := beq_iff_eq.mpr c7
   have c7b1 : (((rd_T80 l0 x5_1).f1) != (wrap64 (x1_1 + 1))) = false := bne_eq_false_iff_eq.mpr c7
   clear c7
   have H' := As.mk H
   clear H
   try go_wp2
   replace HB := As.mk (below_drew1 HB.out)
   have p232 : 0 ≤ (x5_1 : Int) := od
   have q232 : x5_1 < (l0.length : Int) := od
   obtain ⟨ad232, e232, hx232_0, hx232_1⟩ := at_T80 HR0.out x5_1 p232 q232
   have hw232_1 := hx232_1
   have hw232_0 := hx232_0
   cases e232
   replace hx232_0 := ce HB.out hx232_0
   replace hx232_1 := ce HB.out hx232_1
   replace p232 := eq_true p232
   replace q232 := eq_true q232
   refine start_ (n := 8) (S := fun w' => w'.cell? (ad232.add ((x5_1).toNat * 2)) = some (.string ((rd_T80 l0 x5_1).f0)) ∧ w'.cell? ⟨(ad232.add ((x5_1).toNat * 2)).block, (ad232.add ((x5_1).toNat * 2)).off + 1, none⟩ = some (.int .i64 ((rd_T80 l0 x5_1).f1))) (ds := []) #[O, O, O, O, O, O, O, O] (by kernel_rfl) rfl rfl ⟨(ce HB.out hw232_0 :), (ce HB.out hw232_1 :)⟩ (fun hHeld => ?_); refine with_tabW laws_heldParamS.tab4 laws_heldParamS.bits4 (fun HT_ HW_ => ?_)
   generalize wr.drew = w8 at HB hx232_0 hx232_1 hHeld ⊢
   refine pure_ (i := 0) (N := some 12) (v := ?_) (a' := ?_) #[I, O, O, O, O, O, O, O] rfl rfl (any_of HT_.out (by kernel_rfl)) (fun _ _ _ h => h) (Or.inl ⟨by rfl, ?_⟩) ?_ ?_
   rotate_left; · intro w'; go_simp; with_reducible rfl
   rotate_left; · simp only [pk, i64_w, i32_w]; rfl
   refine pure_ (i := 1) (N := some 13) (v := ?_) (a' := ?_) #[I, I, O, O, O, O, O, O] rfl rfl (any_of HT_.out (by kernel_rfl)) (fun _ _ _ h => h) (Or.inl ⟨by rfl, ?_⟩) ?_ ?_
   rotate_left; · intro w'; go_simp; with_reducible rfl
   rotate_left; · simp only [pk, i64_w, i32_w]; rfl
   refine pure_ (i := 2) (N := some 14) (v := ?_) (a' := ?_) #[I, I, I, O, O, O, O, O] rfl rfl (any_of HT_.out (by kernel_rfl)) (fun _ _ _ h => h) (Or.inl ⟨by rfl, ?_⟩) ?_ ?_
   rotate_left; · intro w'; go_simp; with_reducible rfl
   rotate_left; · simp only [pk, i64_w, i32_w]; rfl
   refine pure_ (i := 3) (N := some 15) (v := ?_) (a' := ?_) #[I, I, I, I, O, O, O, O] rfl rfl (any_of HT_.out (by kernel_rfl)) (fun _ _ _ h => h) (Or.inl ⟨by rfl, ?_⟩) ?_ ?_
   rotate_left; · intro w'; go_simp; with_reducible rfl
   rotate_left; · simp only [pk, i64_w, i32_w]; rfl
   refine pure_ (i := 5) (N := some 17) (v := ?_) (a' := ?_) #[I, I, I, I, O, I, O, O] rfl rfl (any_of HT_.out (by kernel_rfl)) (fun _ _ _ h => h) (Or.inl ⟨by rfl, ?_⟩) ?_ ?_
   rotate_left; · intro w'; go_simp; with_reducible rfl
   rotate_left; · simp only [pk, i64_w, i32_w]; rfl
   refine take_ (i := 4) (N := some 16) (v := ?_) (a' := ?_) #[I, I, I, I, I, I, O, O] rfl rfl (take_ofW HT_.out HW_.out (by kernel_rfl)) (fun _ _ _ h => h) (Or.inl ⟨by rfl, ?_⟩) hHeld ?_ ?_
   rotate_left; · rintro w' ⟨s0, s1⟩; go_simp; with_reducible rfl
   rotate_left; · simp only [pk, i64_w, i32_w]; rfl
   refine one_ (i := 6) (N := some 18) #[I, I, I, I, I, I, I, O] rfl rfl (one_of HT_.out (by kernel_rfl)) (by decide) (fun K hK => ?_)
   refine goes_ Try.func32 (by kernel_rfl) rfl #[.int .i64 x1_1] (by rfl) rfl rfl (by (try simp only [lm]); first | done | rfl | (simp only [List.length_drop, List.length_take]; rfl)) ?_
   with_reducible refine (laws_markText.calls k1 x1_1 t233 _ A5.out).mono ?_
   rintro e w9 ⟨rfl, hb⟩
   refine ⟨_, rfl, ?_⟩
   replace HB := As.mk (below_step (be w) hb)
   (try clear hb)
   (try clear hb2)
   (try clear hk)
   (try clear hi)
   refine hK.out _ _ ⟨(ce HB.out hw232_0 :), (ce HB.out hw232_1 :)⟩ (fun hHeld => ?_)
   clear hK K
   refine norm_ (a' := ?_) ?_ ?_
   rotate_left
   ·
    show Act.put _ (some 18) _ = _
    simp only [pk, i64_w, i32_w]
    rfl
   refine pure_ (i := 7) (N := some 19) (v := ?_) (a' := ?_) #[I, I, I, I, I, I, I, I] rfl rfl (any_of HT_.out (by kernel_rfl)) (fun _ _ _ h => h) (Or.inl ⟨by rfl, ?_⟩) ?_ ?_
   rotate_left; · intro w'; go_simp; with_reducible rfl
   rotate_left; · simp only [pk, i64_w, i32_w]; rfl
   refine done_ (done_of HT_.out (by kernel_rfl)) ?_
   have p234 : 0 ≤ (x5_1 : Int) := od
   have q234 : x5_1 < (l0.length : Int) := od
   obtain ⟨ad234, e234, hx234_0, hx234_1⟩ := at_T80 HR0.out x5_1 p234 q234
   obtain rfl : ad232 = ad234 := (by injection e234)
   replace hx234_0 := ce HB.out hx234_0
   replace hx234_1 := ce HB.out hx234_1
   replace p234 := eq_true p234
   replace q234 := eq_true q234
   try go_wp2
   go_roundg k1
   case measure => have := HK1.out; omega
   case rel => exact ⟨(wrap64 ((wrap64 (x1_1 + 1)) + 1)), (wrap64 (x5_1 + 1)), (by first | rfl | (simp; done) | (simp [*]; done)), (by first | rfl | (simp; done) | (simp [*]; done)), H', ⟨by have := HK1.out; omega⟩, ⟨be w⟩⟩
/-! ### laws_heldFnS: function 23 -/
def laws_heldFnS.l0 : Nat → List (S44) → Int → Int → Option (Int)
 | 0, _, _, _ => none
 | k + 1, x0, x1, x5 => if x5 < (x0.length : Int) then (if 0 ≤ x5 then ((laws_markText.f k x1).bind fun t236 => (if ((rd_T44 x0 x5).f0).toList = t236.toList then ((laws_heldParamS.f k ((rd_T44 x0 x5).f1) (wrap64 (x1 + 1))).bind fun t238 => (if t238 < 0 then (some (-1)) else (if ((rd_T44 x0 x5).f2) = t238 then (if ((rd_T44 x0 x5).f3) = (wrap64 (t238 + 1)) then (if ((rd_T44 x0 x5).f4) = (wrap64 ((wrap64 (t238 + 1)) + 1)) then (laws_heldFnS.l0 k x0 (wrap64 ((wrap64 ((wrap64 (t238 + 1)) + 1)) + 1)) (wrap64 (x5 + 1))) else (some (-1))) else (some (-1))) else (some (-1))))) else (some (-1)))) else (none)) else (some x1)
def laws_heldFnS.f (k : Nat) (l0 : List (S44)) (a1 : Int) : Option (Int) := laws_heldFnS.l0 k l0 a1 0
theorem laws_heldFnS.mono_l : ∀ k, (∀ y0 y1 y2, LeO (laws_heldFnS.l0 k y0 y1 y2) (laws_heldFnS.l0 (k + 1) y0 y1 y2))
 | 0 => fun _ _ _ r h => by simp [laws_heldFnS.l0] at h
 | k + 1 => by
  have ih0 := laws_heldFnS.mono_l k
  ·
   intro y0 y1 y2
   unfold laws_heldFnS.l0
   with_reducible repeat' first | exact ih0 _ _ _ | exact laws_heldParamS.mono _ _ _ | exact laws_markText.mono _ _ | exact LeO.refl _ | exact LeO.none _ | refine LeO.ite ?_ ?_ | refine LeO.bind ?_ (fun _ => ?_)
theorem laws_heldFnS.mono : ∀ a0 a1 k, LeO (laws_heldFnS.f k a0 a1) (laws_heldFnS.f (k + 1) a0 a1) := by
 intro a0 a1 k
 have ih0 := laws_heldFnS.mono_l k
 unfold laws_heldFnS.f
 with_reducible repeat' first | exact ih0 _ _ _ | exact laws_heldParamS.mono _ _ _ | exact laws_markText.mono _ _ | exact LeO.refl _ | exact LeO.none _ | refine LeO.ite ?_ ?_ | refine LeO.bind ?_ (fun _ => ?_)
def laws_heldFnS.T4 : Bool × List (List Nat × List Nat) := (true, [([], []), ([], []), ([0, 1], [0, 1]), ([2], [2]), ([3], [3]), ([], []), ([5], [5]), ([4, 6], [4, 6])])
def laws_heldFnS.B4 : List Nat := [0, 0, 3, 7, 15, 0, 32, 127]
theorem laws_heldFnS.tab4 : rtab .any (opsOf Try.f23 4) = laws_heldFnS.T4 := by kernel_rfl
theorem laws_heldFnS.bits4 : waitsOk laws_heldFnS.T4.2 laws_heldFnS.B4 = true := by kernel_rfl
set_option maxHeartbeats 8000000 in
set_option maxRecDepth 100000 in
theorem laws_heldFnS.calls (k : Nat) (A0 : Option Addr) (c0 : Nat) (l0 : List (S44)) (a1 : Int) (r : Int) (w : World) (hr0 : Kd.C k44 w A0 l0.length l0) (hc0 : l0.length ≤ c0) (h : laws_heldFnS.f k l0 a1 = some r) :
  Calls Try.prog 23 #[.slice A0 l0.length c0, .int .i64 a1] w fun e w' => e = .returned (.int .i64 r) ∧ Below w.heap.size w w' := by
 have HR0 := As.mk hr0
 have HC0 := As.mk hc0
 clear hr0 hc0
 have HB := As.mk (Below.refl w.heap.size w)
 have H : (laws_heldFnS.l0 k l0 a1 0) = some r := h
 clear h
 have H' := As.mk H
 clear H
 go_enter Try.func23, Try.ntmps23
 go_wp2
 go_loopg [1, 5] k (fun kq v1 v5 w' => ∃ (x1_1 : Int) (x5_1 : Int), v1 = .int .i64 x1_1 ∧ v5 = .int .i64 x5_1 ∧ As (laws_heldFnS.l0 kq l0 x1_1 x5_1 = some r) ∧ As (kq ≤ k) ∧ As (Below w.heap.size w w'))
 case atStart => exact ⟨(a1), (0), (by first | rfl | (simp; done) | (simp [*]; done)), (by first | rfl | (simp; done) | (simp [*]; done)), H', ⟨Nat.le_refl _⟩, ⟨be w⟩⟩
 case round =>
  clear H'
  obtain ⟨x1_1, x5_1, rfl, rfl, HA, HK1, HB⟩ := hrel
  cases gk with
  | zero => exact absurd HA.out (by simp [laws_heldFnS.l0])
  | succ k1 =>
   have H := HA.out
   clear HA
   simp only [laws_heldFnS.l0] at H
   by_cases c3 : x5_1 < (l0.length : Int)
   rotate_left
   ·
    rw [if_neg c3] at H
    have c3b0 : decide (x5_1 < (l0.length : Int)) = false := decide_eq_false c3
    clear c3
    obtain rfl := Option.some.inj H
    go_wp2
    go_ret
    exact ⟨ez, be w⟩

   rw [if_pos c3] at H
   have c3b0 : decide (x5_1 < (l0.length : Int)) = true := decide_eq_true c3
   clear c3
   by_cases c4 : 0 ≤ x5_1
   rotate_left; · rw [if_neg c4] at H; exact absurd H (by simp)
   rw [if_pos c4] at H
   have c4b0 : decide (0 ≤ x5_1) = true := decide_eq_true c4
   clear c4
   obtain ⟨t236, A50, H⟩ := Option.bind_eq_some_iff.mp H
   try dsimp only at H
   have A5 := As.mk A50
   clear A50
   by_cases c6 : ((rd_T44 l0 x5_1).f0).toList = t236.toList
   rotate_left
   ·
    rw [if_neg c6] at H
    have c6b0 : (((rd_T44 l0 x5_1).f0).toList == t236.toList) = false := beq_eq_false_iff_ne.mpr c6
    have c6b1 : (((rd_T44 l0 x5_1).f0).toList != t236.toList) = true := bne_iff_ne.mpr c6
    obtain rfl := Option.some.inj H
    try go_wp2
    replace HB := As.mk (below_drew1 HB.out)
    have p235 : 0 ≤ (x5_1 : Int) := od
    have q235 : x5_1 < (l0.length : Int) := od
    obtain ⟨ad235, A235_1, c235_1, e235, hx235_0, hx235_1, hx235_2, hx235_3, hx235_4, hl235_1, hi235_1⟩ := at_T44 HR0.out x5_1 p235 q235
    have hw235_4 := hx235_4
    have hw235_3 := hx235_3
    have hw235_2 := hx235_2
    have hw235_1 := hx235_1
    have hw235_0 := hx235_0
    cases e235
    replace hx235_0 := ce HB.out hx235_0
    replace hx235_1 := ce HB.out hx235_1
    replace hx235_2 := ce HB.out hx235_2
    replace hx235_3 := ce HB.out hx235_3
    replace hx235_4 := ce HB.out hx235_4
    have HR235_1 := As.mk hi235_1
    have HC235_1 := As.mk hl235_1
    clear hi235_1 hl235_1
    replace p235 := eq_true p235
    replace q235 := eq_true q235
    refine start_ (n := 8) (S := fun w' => w'.cell? (ad235.add ((x5_1).toNat * 5)) = some (.string ((rd_T44 l0 x5_1).f0)) ∧ w'.cell? ⟨(ad235.add ((x5_1).toNat * 5)).block, (ad235.add ((x5_1).toNat * 5)).off + 1, none⟩ = some (.slice A235_1 ((rd_T44 l0 x5_1).f1).length c235_1) ∧ w'.cell? ⟨(ad235.add ((x5_1).toNat * 5)).block, (ad235.add ((x5_1).toNat * 5)).off + 2, none⟩ = some (.int .i64 ((rd_T44 l0 x5_1).f2)) ∧ w'.cell? ⟨(ad235.add ((x5_1).toNat * 5)).block, (ad235.add ((x5_1).toNat * 5)).off + 3, none⟩ = some (.int .i64 ((rd_T44 l0 x5_1).f3)) ∧ w'.cell? ⟨(ad235.add ((x5_1).toNat * 5)).block, (ad235.add ((x5_1).toNat * 5)).off + 4, none⟩ = some (.int .i64 ((rd_T44 l0 x5_1).f4))) (ds := []) #[O, O, O, O, O, O, O, O] (by kernel_rfl) rfl rfl ⟨(ce HB.out hw235_0 :), (ce HB.out hw235_1 :), (ce HB.out hw235_2 :), (ce HB.out hw235_3 :), (ce HB.out hw235_4 :)⟩ (fun hHeld => ?_); refine with_tabW laws_heldFnS.tab4 laws_heldFnS.bits4 (fun HT_ HW_ => ?_)
    generalize wr.drew = w27 at HB HR235_1 hx235_0 hx235_1 hx235_2 hx235_3 hx235_4 hHeld ⊢
    refine pure_ (i := 0) (N := some 12) (v := ?_) (a' := ?_) #[I, O, O, O, O, O, O, O] rfl rfl (any_of HT_.out (by kernel_rfl)) (fun _ _ _ h => h) (Or.inl ⟨by rfl, ?_⟩) ?_ ?_
    rotate_left; · intro w'; go_simp; with_reducible rfl
    rotate_left; · simp only [pk, i64_w, i32_w]; rfl
    refine pure_ (i := 1) (N := some 13) (v := ?_) (a' := ?_) #[I, I, O, O, O, O, O, O] rfl rfl (any_of HT_.out (by kernel_rfl)) (fun _ _ _ h => h) (Or.inl ⟨by rfl, ?_⟩) ?_ ?_
    rotate_left; · intro w'; go_simp; with_reducible rfl
    rotate_left; · simp only [pk, i64_w, i32_w]; rfl
    refine pure_ (i := 2) (N := some 14) (v := ?_) (a' := ?_) #[I, I, I, O, O, O, O, O] rfl rfl (any_of HT_.out (by kernel_rfl)) (fun _ _ _ h => h) (Or.inl ⟨by rfl, ?_⟩) ?_ ?_
    rotate_left; · intro w'; go_simp; with_reducible rfl
    rotate_left; · simp only [pk, i64_w, i32_w]; rfl
    refine pure_ (i := 3) (N := some 15) (v := ?_) (a' := ?_) #[I, I, I, I, O, O, O, O] rfl rfl (any_of HT_.out (by kernel_rfl)) (fun _ _ _ h => h) (Or.inl ⟨by rfl, ?_⟩) ?_ ?_
    rotate_left; · intro w'; go_simp; with_reducible rfl
    rotate_left; · simp only [pk, i64_w, i32_w]; rfl
    refine pure_ (i := 5) (N := some 17) (v := ?_) (a' := ?_) #[I, I, I, I, O, I, O, O] rfl rfl (any_of HT_.out (by kernel_rfl)) (fun _ _ _ h => h) (Or.inl ⟨by rfl, ?_⟩) ?_ ?_
    rotate_left; · intro w'; go_simp; with_reducible rfl
    rotate_left; · simp only [pk, i64_w, i32_w]; rfl
    refine take_ (i := 4) (N := some 16) (v := ?_) (a' := ?_) #[I, I, I, I, I, I, O, O] rfl rfl (take_ofW HT_.out HW_.out (by kernel_rfl)) (fun _ _ _ h => h) (Or.inl ⟨by rfl, ?_⟩) hHeld ?_ ?_
    rotate_left; · rintro w' ⟨s0, s1, s2, s3, s4⟩; go_simp; with_reducible rfl
    rotate_left; · simp only [pk, i64_w, i32_w]; rfl
    refine one_ (i := 6) (N := some 18) #[I, I, I, I, I, I, I, O] rfl rfl (one_of HT_.out (by kernel_rfl)) (by decide) (fun K hK => ?_)
    refine goes_ Try.func32 (by kernel_rfl) rfl #[.int .i64 x1_1] (by rfl) rfl rfl (by (try simp only [lm]); first | done | rfl | (simp only [List.length_drop, List.length_take]; rfl)) ?_
    with_reducible refine (laws_markText.calls k1 x1_1 t236 _ A5.out).mono ?_
    rintro e w28 ⟨rfl, hb⟩
    refine ⟨_, rfl, ?_⟩
    replace HB := As.mk (below_step (be w) hb)
    (try clear hb)
    (try clear hb2)
    (try clear hk)
    (try clear hi)
    refine hK.out _ _ ⟨(ce HB.out hw235_0 :), (ce HB.out hw235_1 :), (ce HB.out hw235_2 :), (ce HB.out hw235_3 :), (ce HB.out hw235_4 :)⟩ (fun hHeld => ?_)
    clear hK K
    refine norm_ (a' := ?_) ?_ ?_
    rotate_left
    ·
     show Act.put _ (some 18) _ = _
     simp only [pk, i64_w, i32_w]
     rfl
    refine pure_ (i := 7) (N := some 19) (v := ?_) (a' := ?_) #[I, I, I, I, I, I, I, I] rfl rfl (any_of HT_.out (by kernel_rfl)) (fun _ _ _ h => h) (Or.inl ⟨by rfl, ?_⟩) ?_ ?_
    rotate_left; · intro w'; go_simp; with_reducible rfl
    rotate_left; · simp only [pk, i64_w, i32_w]; rfl
    refine done_ (done_of HT_.out (by kernel_rfl)) ?_
    try go_wp2
    go_ret
    exact ⟨ez, be w⟩
   rw [if_pos c6] at H
   have c6b0 : (((rd_T44 l0 x5_1).f0).toList == t236.toList) = true := beq_iff_eq.mpr c6
   have c6b1 : (((rd_T44 l0 x5_1).f0).toList != t236.toList) = false := bne_eq_false_iff_eq.mpr c6
   clear c6
   obtain ⟨t238, A70, H⟩ := Option.bind_eq_some_iff.mp H
   try dsimp only at H
   have A7 := As.mk A70
   clear A70
   by_cases c8 : t238 < 0
   ·
    rw [if_pos c8] at H
    have c8b0 : decide (t238 < 0) = true := decide_eq_true c8
    clear c8
    obtain rfl := Option.some.inj H
    try go_wp2
    replace HB := As.mk (below_drew1 HB.out)
    have p235 : 0 ≤ (x5_1 : Int) := od
    have q235 : x5_1 < (l0.length : Int) := od
    obtain ⟨ad235, A235_1, c235_1, e235, hx235_0, hx235_1, hx235_2, hx235_3, hx235_4, hl235_1, hi235_1⟩ := at_T44 HR0.out x5_1 p235 q235
    have hw235_4 := hx235_4
    have hw235_3 := hx235_3
    have hw235_2 := hx235_2
    have hw235_1 := hx235_1
    have hw235_0 := hx235_0
    cases e235
    replace hx235_0 := ce HB.out hx235_0
    replace hx235_1 := ce HB.out hx235_1
    replace hx235_2 := ce HB.out hx235_2
    replace hx235_3 := ce HB.out hx235_3
    replace hx235_4 := ce HB.out hx235_4
    have HR235_1 := As.mk hi235_1
    have HC235_1 := As.mk hl235_1
    clear hi235_1 hl235_1
    replace p235 := eq_true p235
    replace q235 := eq_true q235
    refine start_ (n := 8) (S := fun w' => w'.cell? (ad235.add ((x5_1).toNat * 5)) = some (.string ((rd_T44 l0 x5_1).f0)) ∧ w'.cell? ⟨(ad235.add ((x5_1).toNat * 5)).block, (ad235.add ((x5_1).toNat * 5)).off + 1, none⟩ = some (.slice A235_1 ((rd_T44 l0 x5_1).f1).length c235_1) ∧ w'.cell? ⟨(ad235.add ((x5_1).toNat * 5)).block, (ad235.add ((x5_1).toNat * 5)).off + 2, none⟩ = some (.int .i64 ((rd_T44 l0 x5_1).f2)) ∧ w'.cell? ⟨(ad235.add ((x5_1).toNat * 5)).block, (ad235.add ((x5_1).toNat * 5)).off + 3, none⟩ = some (.int .i64 ((rd_T44 l0 x5_1).f3)) ∧ w'.cell? ⟨(ad235.add ((x5_1).toNat * 5)).block, (ad235.add ((x5_1).toNat * 5)).off + 4, none⟩ = some (.int .i64 ((rd_T44 l0 x5_1).f4))) (ds := []) #[O, O, O, O, O, O, O, O] (by kernel_rfl) rfl rfl ⟨(ce HB.out hw235_0 :), (ce HB.out hw235_1 :), (ce HB.out hw235_2 :), (ce HB.out hw235_3 :), (ce HB.out hw235_4 :)⟩ (fun hHeld => ?_); refine with_tabW laws_heldFnS.tab4 laws_heldFnS.bits4 (fun HT_ HW_ => ?_)
    generalize wr.drew = w9 at HB HR235_1 hx235_0 hx235_1 hx235_2 hx235_3 hx235_4 hHeld ⊢
    refine pure_ (i := 0) (N := some 12) (v := ?_) (a' := ?_) #[I, O, O, O, O, O, O, O] rfl rfl (any_of HT_.out (by kernel_rfl)) (fun _ _ _ h => h) (Or.inl ⟨by rfl, ?_⟩) ?_ ?_
    rotate_left; · intro w'; go_simp; with_reducible rfl
    rotate_left; · simp only [pk, i64_w, i32_w]; rfl
    refine pure_ (i := 1) (N := some 13) (v := ?_) (a' := ?_) #[I, I, O, O, O, O, O, O] rfl rfl (any_of HT_.out (by kernel_rfl)) (fun _ _ _ h => h) (Or.inl ⟨by rfl, ?_⟩) ?_ ?_
    rotate_left; · intro w'; go_simp; with_reducible rfl
    rotate_left; · simp only [pk, i64_w, i32_w]; rfl
    refine pure_ (i := 2) (N := some 14) (v := ?_) (a' := ?_) #[I, I, I, O, O, O, O, O] rfl rfl (any_of HT_.out (by kernel_rfl)) (fun _ _ _ h => h) (Or.inl ⟨by rfl, ?_⟩) ?_ ?_
    rotate_left; · intro w'; go_simp; with_reducible rfl
    rotate_left; · simp only [pk, i64_w, i32_w]; rfl
    refine pure_ (i := 3) (N := some 15) (v := ?_) (a' := ?_) #[I, I, I, I, O, O, O, O] rfl rfl (any_of HT_.out (by kernel_rfl)) (fun _ _ _ h => h) (Or.inl ⟨by rfl, ?_⟩) ?_ ?_
    rotate_left; · intro w'; go_simp; with_reducible rfl
    rotate_left; · simp only [pk, i64_w, i32_w]; rfl
    refine pure_ (i := 5) (N := some 17) (v := ?_) (a' := ?_) #[I, I, I, I, O, I, O, O] rfl rfl (any_of HT_.out (by kernel_rfl)) (fun _ _ _ h => h) (Or.inl ⟨by rfl, ?_⟩) ?_ ?_
    rotate_left; · intro w'; go_simp; with_reducible rfl
    rotate_left; · simp only [pk, i64_w, i32_w]; rfl
    refine take_ (i := 4) (N := some 16) (v := ?_) (a' := ?_) #[I, I, I, I, I, I, O, O] rfl rfl (take_ofW HT_.out HW_.out (by kernel_rfl)) (fun _ _ _ h => h) (Or.inl ⟨by rfl, ?_⟩) hHeld ?_ ?_
    rotate_left; · rintro w' ⟨s0, s1, s2, s3, s4⟩; go_simp; with_reducible rfl
    rotate_left; · simp only [pk, i64_w, i32_w]; rfl
    refine one_ (i := 6) (N := some 18) #[I, I, I, I, I, I, I, O] rfl rfl (one_of HT_.out (by kernel_rfl)) (by decide) (fun K hK => ?_)
    refine goes_ Try.func32 (by kernel_rfl) rfl #[.int .i64 x1_1] (by rfl) rfl rfl (by (try simp only [lm]); first | done | rfl | (simp only [List.length_drop, List.length_take]; rfl)) ?_
    with_reducible refine (laws_markText.calls k1 x1_1 t236 _ A5.out).mono ?_
    rintro e w10 ⟨rfl, hb⟩
    refine ⟨_, rfl, ?_⟩
    replace HB := As.mk (below_step (be w) hb)
    (try clear hb)
    (try clear hb2)
    (try clear hk)
    (try clear hi)
    refine hK.out _ _ ⟨(ce HB.out hw235_0 :), (ce HB.out hw235_1 :), (ce HB.out hw235_2 :), (ce HB.out hw235_3 :), (ce HB.out hw235_4 :)⟩ (fun hHeld => ?_)
    clear hK K
    refine norm_ (a' := ?_) ?_ ?_
    rotate_left
    ·
     show Act.put _ (some 18) _ = _
     simp only [pk, i64_w, i32_w]
     rfl
    refine pure_ (i := 7) (N := some 19) (v := ?_) (a' := ?_) #[I, I, I, I, I, I, I, I] rfl rfl (any_of HT_.out (by kernel_rfl)) (fun _ _ _ h => h) (Or.inl ⟨by rfl, ?_⟩) ?_ ?_
    rotate_left; · intro w'; go_simp; with_reducible rfl
    rotate_left; · simp only [pk, i64_w, i32_w]; rfl
    refine done_ (done_of HT_.out (by kernel_rfl)) ?_
    have p237 : 0 ≤ (x5_1 : Int) := od
    have q237 : x5_1 < (l0.length : Int) := od
    obtain ⟨ad237, A237_1, c237_1, e237, hx237_0, hx237_1, hx237_2, hx237_3, hx237_4, hl237_1, hi237_1⟩ := at_T44 HR0.out x5_1 p237 q237
    obtain rfl : ad235 = ad237 := (by injection e237)
    have ea_ := Option.some.inj (hx237_1.symm.trans hw235_1)
    injection ea_ with ea_ en_ ec_
    subst ea_
    subst ec_
    clear en_
    replace hx237_0 := ce HB.out hx237_0
    replace hx237_1 := ce HB.out hx237_1
    replace hx237_2 := ce HB.out hx237_2
    replace hx237_3 := ce HB.out hx237_3
    replace hx237_4 := ce HB.out hx237_4
    have HR237_1 := As.mk hi237_1
    have HC237_1 := As.mk hl237_1
    clear hi237_1 hl237_1
    replace p237 := eq_true p237
    replace q237 := eq_true q237
    try go_wp2_with (first | ((with_reducible refine gate_callee (f := 36) rfl ?_); refine goesL_ (some 28) rfl rfl Try.func36 (by kernel_rfl) rfl #[.slice A237_1 ((rd_T44 l0 x5_1).f1).length c237_1, .int .i64 (wrap64 (x1_1 + 1))] rfl (by (try simp only [lm]); first | done | rfl | (simp only [List.length_drop, List.length_take]; rfl)) ?_; (with_reducible refine (laws_heldParamS.calls k1 _ _ ((rd_T44 l0 x5_1).f1) (wrap64 (x1_1 + 1)) t238 _ ?side1 ?side2 A7.out).mono ?_); (case side1 => exact Kd.C_below HR237_1.out (be w)); (case side2 => exact HC237_1.out); rintro e w11 ⟨rfl, hb⟩; refine ⟨_, rfl, ?_⟩; replace HB := As.mk (below_step (be w) hb); (try clear hb); (try clear hb2); (try clear hk); (try clear hi)))
    go_ret
    exact ⟨ez, be w⟩
   rw [if_neg c8] at H
   have c8b0 : decide (t238 < 0) = false := decide_eq_false c8
   clear c8
   by_cases c12 : ((rd_T44 l0 x5_1).f2) = t238
   rotate_left
   ·
    rw [if_neg c12] at H
    have c12b0 : (((rd_T44 l0 x5_1).f2) == t238) = false := beq_eq_false_iff_ne.mpr c12
    have c12b1 : (((rd_T44 l0 x5_1).f2) != t238) = true := bne_iff_ne.mpr c12
    obtain rfl := Option.some.inj H
    try go_wp2
    replace HB := As.mk (below_drew1 HB.out)
    have p235 : 0 ≤ (x5_1 : Int) := od
    have q235 : x5_1 < (l0.length : Int) := od
    obtain ⟨ad235, A235_1, c235_1, e235, hx235_0, hx235_1, hx235_2, hx235_3, hx235_4, hl235_1, hi235_1⟩ := at_T44 HR0.out x5_1 p235 q235
    have hw235_4 := hx235_4
    have hw235_3 := hx235_3
    have hw235_2 := hx235_2
    have hw235_1 := hx235_1
    have hw235_0 := hx235_0
    cases e235
    replace hx235_0 := ce HB.out hx235_0
    replace hx235_1 := ce HB.out hx235_1
    replace hx235_2 := ce HB.out hx235_2
    replace hx235_3 := ce HB.out hx235_3
    replace hx235_4 := ce HB.out hx235_4
    have HR235_1 := As.mk hi235_1
    have HC235_1 := As.mk hl235_1
    clear hi235_1 hl235_1
    replace p235 := eq_true p235
    replace q235 := eq_true q235
    refine start_ (n := 8) (S := fun w' => w'.cell? (ad235.add ((x5_1).toNat * 5)) = some (.string ((rd_T44 l0 x5_1).f0)) ∧ w'.cell? ⟨(ad235.add ((x5_1).toNat * 5)).block, (ad235.add ((x5_1).toNat * 5)).off + 1, none⟩ = some (.slice A235_1 ((rd_T44 l0 x5_1).f1).length c235_1) ∧ w'.cell? ⟨(ad235.add ((x5_1).toNat * 5)).block, (ad235.add ((x5_1).toNat * 5)).off + 2, none⟩ = some (.int .i64 ((rd_T44 l0 x5_1).f2)) ∧ w'.cell? ⟨(ad235.add ((x5_1).toNat * 5)).block, (ad235.add ((x5_1).toNat * 5)).off + 3, none⟩ = some (.int .i64 ((rd_T44 l0 x5_1).f3)) ∧ w'.cell? ⟨(ad235.add ((x5_1).toNat * 5)).block, (ad235.add ((x5_1).toNat * 5)).off + 4, none⟩ = some (.int .i64 ((rd_T44 l0 x5_1).f4))) (ds := []) #[O, O, O, O, O, O, O, O] (by kernel_rfl) rfl rfl ⟨(ce HB.out hw235_0 :), (ce HB.out hw235_1 :), (ce HB.out hw235_2 :), (ce HB.out hw235_3 :), (ce HB.out hw235_4 :)⟩ (fun hHeld => ?_); refine with_tabW laws_heldFnS.tab4 laws_heldFnS.bits4 (fun HT_ HW_ => ?_)
    generalize wr.drew = w24 at HB HR235_1 hx235_0 hx235_1 hx235_2 hx235_3 hx235_4 hHeld ⊢
    refine pure_ (i := 0) (N := some 12) (v := ?_) (a' := ?_) #[I, O, O, O, O, O, O, O] rfl rfl (any_of HT_.out (by kernel_rfl)) (fun _ _ _ h => h) (Or.inl ⟨by rfl, ?_⟩) ?_ ?_
    rotate_left; · intro w'; go_simp; with_reducible rfl
    rotate_left; · simp only [pk, i64_w, i32_w]; rfl
    refine pure_ (i := 1) (N := some 13) (v := ?_) (a' := ?_) #[I, I, O, O, O, O, O, O] rfl rfl (any_of HT_.out (by kernel_rfl)) (fun _ _ _ h => h) (Or.inl ⟨by rfl, ?_⟩) ?_ ?_
    rotate_left; · intro w'; go_simp; with_reducible rfl
    rotate_left; · simp only [pk, i64_w, i32_w]; rfl
    refine pure_ (i := 2) (N := some 14) (v := ?_) (a' := ?_) #[I, I, I, O, O, O, O, O] rfl rfl (any_of HT_.out (by kernel_rfl)) (fun _ _ _ h => h) (Or.inl ⟨by rfl, ?_⟩) ?_ ?_
    rotate_left; · intro w'; go_simp; with_reducible rfl
    rotate_left; · simp only [pk, i64_w, i32_w]; rfl
    refine pure_ (i := 3) (N := some 15) (v := ?_) (a' := ?_) #[I, I, I, I, O, O, O, O] rfl rfl (any_of HT_.out (by kernel_rfl)) (fun _ _ _ h => h) (Or.inl ⟨by rfl, ?_⟩) ?_ ?_
    rotate_left; · intro w'; go_simp; with_reducible rfl
    rotate_left; · simp only [pk, i64_w, i32_w]; rfl
    refine pure_ (i := 5) (N := some 17) (v := ?_) (a' := ?_) #[I, I, I, I, O, I, O, O] rfl rfl (any_of HT_.out (by kernel_rfl)) (fun _ _ _ h => h) (Or.inl ⟨by rfl, ?_⟩) ?_ ?_
    rotate_left; · intro w'; go_simp; with_reducible rfl
    rotate_left; · simp only [pk, i64_w, i32_w]; rfl
    refine take_ (i := 4) (N := some 16) (v := ?_) (a' := ?_) #[I, I, I, I, I, I, O, O] rfl rfl (take_ofW HT_.out HW_.out (by kernel_rfl)) (fun _ _ _ h => h) (Or.inl ⟨by rfl, ?_⟩) hHeld ?_ ?_
    rotate_left; · rintro w' ⟨s0, s1, s2, s3, s4⟩; go_simp; with_reducible rfl
    rotate_left; · simp only [pk, i64_w, i32_w]; rfl
    refine one_ (i := 6) (N := some 18) #[I, I, I, I, I, I, I, O] rfl rfl (one_of HT_.out (by kernel_rfl)) (by decide) (fun K hK => ?_)
    refine goes_ Try.func32 (by kernel_rfl) rfl #[.int .i64 x1_1] (by rfl) rfl rfl (by (try simp only [lm]); first | done | rfl | (simp only [List.length_drop, List.length_take]; rfl)) ?_
    with_reducible refine (laws_markText.calls k1 x1_1 t236 _ A5.out).mono ?_
    rintro e w25 ⟨rfl, hb⟩
    refine ⟨_, rfl, ?_⟩
    replace HB := As.mk (below_step (be w) hb)
    (try clear hb)
    (try clear hb2)
    (try clear hk)
    (try clear hi)
    refine hK.out _ _ ⟨(ce HB.out hw235_0 :), (ce HB.out hw235_1 :), (ce HB.out hw235_2 :), (ce HB.out hw235_3 :), (ce HB.out hw235_4 :)⟩ (fun hHeld => ?_)
    clear hK K
    refine norm_ (a' := ?_) ?_ ?_
    rotate_left
    ·
     show Act.put _ (some 18) _ = _
     simp only [pk, i64_w, i32_w]
     rfl
    refine pure_ (i := 7) (N := some 19) (v := ?_) (a' := ?_) #[I, I, I, I, I, I, I, I] rfl rfl (any_of HT_.out (by kernel_rfl)) (fun _ _ _ h => h) (Or.inl ⟨by rfl, ?_⟩) ?_ ?_
    rotate_left; · intro w'; go_simp; with_reducible rfl
    rotate_left; · simp only [pk, i64_w, i32_w]; rfl
    refine done_ (done_of HT_.out (by kernel_rfl)) ?_
    have p237 : 0 ≤ (x5_1 : Int) := od
    have q237 : x5_1 < (l0.length : Int) := od
    obtain ⟨ad237, A237_1, c237_1, e237, hx237_0, hx237_1, hx237_2, hx237_3, hx237_4, hl237_1, hi237_1⟩ := at_T44 HR0.out x5_1 p237 q237
    obtain rfl : ad235 = ad237 := (by injection e237)
    have ea_ := Option.some.inj (hx237_1.symm.trans hw235_1)
    injection ea_ with ea_ en_ ec_
    subst ea_
    subst ec_
    clear en_
    replace hx237_0 := ce HB.out hx237_0
    replace hx237_1 := ce HB.out hx237_1
    replace hx237_2 := ce HB.out hx237_2
    replace hx237_3 := ce HB.out hx237_3
    replace hx237_4 := ce HB.out hx237_4
    have HR237_1 := As.mk hi237_1
    have HC237_1 := As.mk hl237_1
    clear hi237_1 hl237_1
    replace p237 := eq_true p237
    replace q237 := eq_true q237
    try go_wp2_with (first | ((with_reducible refine gate_callee (f := 36) rfl ?_); refine goesL_ (some 28) rfl rfl Try.func36 (by kernel_rfl) rfl #[.slice A237_1 ((rd_T44 l0 x5_1).f1).length c237_1, .int .i64 (wrap64 (x1_1 + 1))] rfl (by (try simp only [lm]); first | done | rfl | (simp only [List.length_drop, List.length_take]; rfl)) ?_; (with_reducible refine (laws_heldParamS.calls k1 _ _ ((rd_T44 l0 x5_1).f1) (wrap64 (x1_1 + 1)) t238 _ ?side1 ?side2 A7.out).mono ?_); (case side1 => exact Kd.C_below HR237_1.out (be w)); (case side2 => exact HC237_1.out); rintro e w26 ⟨rfl, hb⟩; refine ⟨_, rfl, ?_⟩; replace HB := As.mk (below_step (be w) hb); (try clear hb); (try clear hb2); (try clear hk); (try clear hi); have p239 : 0 ≤ (x5_1 : Int) := od; have q239 : x5_1 < (l0.length : Int) := od; obtain ⟨ad239, A239_1, c239_1, e239, hx239_0, hx239_1, hx239_2, hx239_3, hx239_4, hl239_1, hi239_1⟩ := at_T44 HR0.out x5_1 p239 q239; obtain rfl : ad235 = ad239 := (by injection e239); replace hx239_0 := ce HB.out hx239_0; replace hx239_1 := ce HB.out hx239_1; replace hx239_2 := ce HB.out hx239_2; replace hx239_3 := ce HB.out hx239_3; replace hx239_4 := ce HB.out hx239_4; have HR239_1 := As.mk hi239_1; have HC239_1 := As.mk hl239_1; clear hi239_1 hl239_1; replace p239 := eq_true p239; replace q239 := eq_true q239))
    go_ret
    exact ⟨ez, be w⟩
   rw [if_pos c12] at H
   have c12b0 : (((rd_T44 l0 x5_1).f2) == t238) = true := beq_iff_eq.mpr c12
   have c12b1 : (((rd_T44 l0 x5_1).f2) != t238) = false := bne_eq_false_iff_eq.mpr c12
   clear c12
   by_cases c13 : ((rd_T44 l0 x5_1).f3) = (wrap64 (t238 + 1))
   rotate_left
   ·
    rw [if_neg c13] at H
    have c13b0 : (((rd_T44 l0 x5_1).f3) == (wrap64 (t238 + 1))) = false := beq_eq_false_iff_ne.mpr c13
    have c13b1 : (((rd_T44 l0 x5_1).f3) != (wrap64 (t238 + 1))) = true := bne_iff_ne.mpr c13
    obtain rfl := Option.some.inj H
    try go_wp2
    replace HB := As.mk (below_drew1 HB.out)
    have p235 : 0 ≤ (x5_1 : Int) := od
    have q235 : x5_1 < (l0.length : Int) := od
    obtain ⟨ad235, A235_1, c235_1, e235, hx235_0, hx235_1, hx235_2, hx235_3, hx235_4, hl235_1, hi235_1⟩ := at_T44 HR0.out x5_1 p235 q235
    have hw235_4 := hx235_4
    have hw235_3 := hx235_3
    have hw235_2 := hx235_2
    have hw235_1 := hx235_1
    have hw235_0 := hx235_0
    cases e235
    replace hx235_0 := ce HB.out hx235_0
    replace hx235_1 := ce HB.out hx235_1
    replace hx235_2 := ce HB.out hx235_2
    replace hx235_3 := ce HB.out hx235_3
    replace hx235_4 := ce HB.out hx235_4
    have HR235_1 := As.mk hi235_1
    have HC235_1 := As.mk hl235_1
    clear hi235_1 hl235_1
    replace p235 := eq_true p235
    replace q235 := eq_true q235
    refine start_ (n := 8) (S := fun w' => w'.cell? (ad235.add ((x5_1).toNat * 5)) = some (.string ((rd_T44 l0 x5_1).f0)) ∧ w'.cell? ⟨(ad235.add ((x5_1).toNat * 5)).block, (ad235.add ((x5_1).toNat * 5)).off + 1, none⟩ = some (.slice A235_1 ((rd_T44 l0 x5_1).f1).length c235_1) ∧ w'.cell? ⟨(ad235.add ((x5_1).toNat * 5)).block, (ad235.add ((x5_1).toNat * 5)).off + 2, none⟩ = some (.int .i64 ((rd_T44 l0 x5_1).f2)) ∧ w'.cell? ⟨(ad235.add ((x5_1).toNat * 5)).block, (ad235.add ((x5_1).toNat * 5)).off + 3, none⟩ = some (.int .i64 ((rd_T44 l0 x5_1).f3)) ∧ w'.cell? ⟨(ad235.add ((x5_1).toNat * 5)).block, (ad235.add ((x5_1).toNat * 5)).off + 4, none⟩ = some (.int .i64 ((rd_T44 l0 x5_1).f4))) (ds := []) #[O, O, O, O, O, O, O, O] (by kernel_rfl) rfl rfl ⟨(ce HB.out hw235_0 :), (ce HB.out hw235_1 :), (ce HB.out hw235_2 :), (ce HB.out hw235_3 :), (ce HB.out hw235_4 :)⟩ (fun hHeld => ?_); refine with_tabW laws_heldFnS.tab4 laws_heldFnS.bits4 (fun HT_ HW_ => ?_)
    generalize wr.drew = w21 at HB HR235_1 hx235_0 hx235_1 hx235_2 hx235_3 hx235_4 hHeld ⊢
    refine pure_ (i := 0) (N := some 12) (v := ?_) (a' := ?_) #[I, O, O, O, O, O, O, O] rfl rfl (any_of HT_.out (by kernel_rfl)) (fun _ _ _ h => h) (Or.inl ⟨by rfl, ?_⟩) ?_ ?_
    rotate_left; · intro w'; go_simp; with_reducible rfl
    rotate_left; · simp only [pk, i64_w, i32_w]; rfl
    refine pure_ (i := 1) (N := some 13) (v := ?_) (a' := ?_) #[I, I, O, O, O, O, O, O] rfl rfl (any_of HT_.out (by kernel_rfl)) (fun _ _ _ h => h) (Or.inl ⟨by rfl, ?_⟩) ?_ ?_
    rotate_left; · intro w'; go_simp; with_reducible rfl
    rotate_left; · simp only [pk, i64_w, i32_w]; rfl
    refine pure_ (i := 2) (N := some 14) (v := ?_) (a' := ?_) #[I, I, I, O, O, O, O, O] rfl rfl (any_of HT_.out (by kernel_rfl)) (fun _ _ _ h => h) (Or.inl ⟨by rfl, ?_⟩) ?_ ?_
    rotate_left; · intro w'; go_simp; with_reducible rfl
    rotate_left; · simp only [pk, i64_w, i32_w]; rfl
    refine pure_ (i := 3) (N := some 15) (v := ?_) (a' := ?_) #[I, I, I, I, O, O, O, O] rfl rfl (any_of HT_.out (by kernel_rfl)) (fun _ _ _ h => h) (Or.inl ⟨by rfl, ?_⟩) ?_ ?_
    rotate_left; · intro w'; go_simp; with_reducible rfl
    rotate_left; · simp only [pk, i64_w, i32_w]; rfl
    refine pure_ (i := 5) (N := some 17) (v := ?_) (a' := ?_) #[I, I, I, I, O, I, O, O] rfl rfl (any_of HT_.out (by kernel_rfl)) (fun _ _ _ h => h) (Or.inl ⟨by rfl, ?_⟩) ?_ ?_
    rotate_left; · intro w'; go_simp; with_reducible rfl
    rotate_left; · simp only [pk, i64_w, i32_w]; rfl
    refine take_ (i := 4) (N := some 16) (v := ?_) (a' := ?_) #[I, I, I, I, I, I, O, O] rfl rfl (take_ofW HT_.out HW_.out (by kernel_rfl)) (fun _ _ _ h => h) (Or.inl ⟨by rfl, ?_⟩) hHeld ?_ ?_
    rotate_left; · rintro w' ⟨s0, s1, s2, s3, s4⟩; go_simp; with_reducible rfl
    rotate_left; · simp only [pk, i64_w, i32_w]; rfl
    refine one_ (i := 6) (N := some 18) #[I, I, I, I, I, I, I, O] rfl rfl (one_of HT_.out (by kernel_rfl)) (by decide) (fun K hK => ?_)
    refine goes_ Try.func32 (by kernel_rfl) rfl #[.int .i64 x1_1] (by rfl) rfl rfl (by (try simp only [lm]); first | done | rfl | (simp only [List.length_drop, List.length_take]; rfl)) ?_
    with_reducible refine (laws_markText.calls k1 x1_1 t236 _ A5.out).mono ?_
    rintro e w22 ⟨rfl, hb⟩
    refine ⟨_, rfl, ?_⟩
    replace HB := As.mk (below_step (be w) hb)
    (try clear hb)
    (try clear hb2)
    (try clear hk)
    (try clear hi)
    refine hK.out _ _ ⟨(ce HB.out hw235_0 :), (ce HB.out hw235_1 :), (ce HB.out hw235_2 :), (ce HB.out hw235_3 :), (ce HB.out hw235_4 :)⟩ (fun hHeld => ?_)
    clear hK K
    refine norm_ (a' := ?_) ?_ ?_
    rotate_left
    ·
     show Act.put _ (some 18) _ = _
     simp only [pk, i64_w, i32_w]
     rfl
    refine pure_ (i := 7) (N := some 19) (v := ?_) (a' := ?_) #[I, I, I, I, I, I, I, I] rfl rfl (any_of HT_.out (by kernel_rfl)) (fun _ _ _ h => h) (Or.inl ⟨by rfl, ?_⟩) ?_ ?_
    rotate_left; · intro w'; go_simp; with_reducible rfl
    rotate_left; · simp only [pk, i64_w, i32_w]; rfl
    refine done_ (done_of HT_.out (by kernel_rfl)) ?_
    have p237 : 0 ≤ (x5_1 : Int) := od
    have q237 : x5_1 < (l0.length : Int) := od
    obtain ⟨ad237, A237_1, c237_1, e237, hx237_0, hx237_1, hx237_2, hx237_3, hx237_4, hl237_1, hi237_1⟩ := at_T44 HR0.out x5_1 p237 q237
    obtain rfl : ad235 = ad237 := (by injection e237)
    have ea_ := Option.some.inj (hx237_1.symm.trans hw235_1)
    injection ea_ with ea_ en_ ec_
    subst ea_
    subst ec_
    clear en_
    replace hx237_0 := ce HB.out hx237_0
    replace hx237_1 := ce HB.out hx237_1
    replace hx237_2 := ce HB.out hx237_2
    replace hx237_3 := ce HB.out hx237_3
    replace hx237_4 := ce HB.out hx237_4
    have HR237_1 := As.mk hi237_1
    have HC237_1 := As.mk hl237_1
    clear hi237_1 hl237_1
    replace p237 := eq_true p237
    replace q237 := eq_true q237
    try go_wp2_with (first | ((with_reducible refine gate_callee (f := 36) rfl ?_); refine goesL_ (some 28) rfl rfl Try.func36 (by kernel_rfl) rfl #[.slice A237_1 ((rd_T44 l0 x5_1).f1).length c237_1, .int .i64 (wrap64 (x1_1 + 1))] rfl (by (try simp only [lm]); first | done | rfl | (simp only [List.length_drop, List.length_take]; rfl)) ?_; (with_reducible refine (laws_heldParamS.calls k1 _ _ ((rd_T44 l0 x5_1).f1) (wrap64 (x1_1 + 1)) t238 _ ?side1 ?side2 A7.out).mono ?_); (case side1 => exact Kd.C_below HR237_1.out (be w)); (case side2 => exact HC237_1.out); rintro e w23 ⟨rfl, hb⟩; refine ⟨_, rfl, ?_⟩; replace HB := As.mk (below_step (be w) hb); (try clear hb); (try clear hb2); (try clear hk); (try clear hi); have p239 : 0 ≤ (x5_1 : Int) := od; have q239 : x5_1 < (l0.length : Int) := od; obtain ⟨ad239, A239_1, c239_1, e239, hx239_0, hx239_1, hx239_2, hx239_3, hx239_4, hl239_1, hi239_1⟩ := at_T44 HR0.out x5_1 p239 q239; obtain rfl : ad235 = ad239 := (by injection e239); replace hx239_0 := ce HB.out hx239_0; replace hx239_1 := ce HB.out hx239_1; replace hx239_2 := ce HB.out hx239_2; replace hx239_3 := ce HB.out hx239_3; replace hx239_4 := ce HB.out hx239_4; have HR239_1 := As.mk hi239_1; have HC239_1 := As.mk hl239_1; clear hi239_1 hl239_1; replace p239 := eq_true p239; replace q239 := eq_true q239; have p240 : 0 ≤ (x5_1 : Int) := od; have q240 : x5_1 < (l0.length : Int) := od; obtain ⟨ad240, A240_1, c240_1, e240, hx240_0, hx240_1, hx240_2, hx240_3, hx240_4, hl240_1, hi240_1⟩ := at_T44 HR0.out x5_1 p240 q240; obtain rfl : ad235 = ad240 := (by injection e240); replace hx240_0 := ce HB.out hx240_0; replace hx240_1 := ce HB.out hx240_1; replace hx240_2 := ce HB.out hx240_2; replace hx240_3 := ce HB.out hx240_3; replace hx240_4 := ce HB.out hx240_4; have HR240_1 := As.mk hi240_1; have HC240_1 := As.mk hl240_1; clear hi240_1 hl240_1; replace p240 := eq_true p240; replace q240 := eq_true q240; have ea_ := Option.some.inj (hx239_1.symm.trans hx240_1); injection ea_ with ea_ en_ ec_; subst ea_; subst ec_; clear en_))
    go_ret
    exact ⟨ez, be w⟩
   rw [if_pos c13] at H
   have c13b0 : (((rd_T44 l0 x5_1).f3) == (wrap64 (t238 + 1))) = true := beq_iff_eq.mpr c13
   have c13b1 : (((rd_T44 l0 x5_1).f3) != (wrap64 (t238 + 1))) = false := bne_eq_false_iff_eq.mpr c13
   clear c13
   by_cases c14 : ((rd_T44 l0 x5_1).f4) = (wrap64 ((wrap64 (t238 + 1)) + 1))
   rotate_left
   ·
    rw [if_neg c14] at H
    have c14b0 : (((rd_T44 l0 x5_1).f4) == (wrap64 ((wrap64 (t238 + 1)) + 1))) = false := beq_eq_false_iff_ne.mpr c14
    have c14b1 : (((rd_T44 l0 x5_1).f4) != (wrap64 ((wrap64 (t238 + 1)) + 1))) = true := bne_iff_ne.mpr c14
    obtain rfl := Option.some.inj H
    try go_wp2
    replace HB := As.mk (below_drew1 HB.out)
    have p235 : 0 ≤ (x5_1 : Int) := od
    have q235 : x5_1 < (l0.length : Int) := od
    obtain ⟨ad235, A235_1, c235_1, e235, hx235_0, hx235_1, hx235_2, hx235_3, hx235_4, hl235_1, hi235_1⟩ := at_T44 HR0.out x5_1 p235 q235
    have hw235_4 := hx235_4
    have hw235_3 := hx235_3
    have hw235_2 := hx235_2
    have hw235_1 := hx235_1
    have hw235_0 := hx235_0
    cases e235
    replace hx235_0 := ce HB.out hx235_0
    replace hx235_1 := ce HB.out hx235_1
    replace hx235_2 := ce HB.out hx235_2
    replace hx235_3 := ce HB.out hx235_3
    replace hx235_4 := ce HB.out hx235_4
    have HR235_1 := As.mk hi235_1
    have HC235_1 := As.mk hl235_1
    clear hi235_1 hl235_1
    replace p235 := eq_true p235
    replace q235 := eq_true q235
    refine start_ (n := 8) (S := fun w' => w'.cell? (ad235.add ((x5_1).toNat * 5)) = some (.string ((rd_T44 l0 x5_1).f0)) ∧ w'.cell? ⟨(ad235.add ((x5_1).toNat * 5)).block, (ad235.add ((x5_1).toNat * 5)).off + 1, none⟩ = some (.slice A235_1 ((rd_T44 l0 x5_1).f1).length c235_1) ∧ w'.cell? ⟨(ad235.add ((x5_1).toNat * 5)).block, (ad235.add ((x5_1).toNat * 5)).off + 2, none⟩ = some (.int .i64 ((rd_T44 l0 x5_1).f2)) ∧ w'.cell? ⟨(ad235.add ((x5_1).toNat * 5)).block, (ad235.add ((x5_1).toNat * 5)).off + 3, none⟩ = some (.int .i64 ((rd_T44 l0 x5_1).f3)) ∧ w'.cell? ⟨(ad235.add ((x5_1).toNat * 5)).block, (ad235.add ((x5_1).toNat * 5)).off + 4, none⟩ = some (.int .i64 ((rd_T44 l0 x5_1).f4))) (ds := []) #[O, O, O, O, O, O, O, O] (by kernel_rfl) rfl rfl ⟨(ce HB.out hw235_0 :), (ce HB.out hw235_1 :), (ce HB.out hw235_2 :), (ce HB.out hw235_3 :), (ce HB.out hw235_4 :)⟩ (fun hHeld => ?_); refine with_tabW laws_heldFnS.tab4 laws_heldFnS.bits4 (fun HT_ HW_ => ?_)
    generalize wr.drew = w18 at HB HR235_1 hx235_0 hx235_1 hx235_2 hx235_3 hx235_4 hHeld ⊢
    refine pure_ (i := 0) (N := some 12) (v := ?_) (a' := ?_) #[I, O, O, O, O, O, O, O] rfl rfl (any_of HT_.out (by kernel_rfl)) (fun _ _ _ h => h) (Or.inl ⟨by rfl, ?_⟩) ?_ ?_
    rotate_left; · intro w'; go_simp; with_reducible rfl
    rotate_left; · simp only [pk, i64_w, i32_w]; rfl
    refine pure_ (i := 1) (N := some 13) (v := ?_) (a' := ?_) #[I, I, O, O, O, O, O, O] rfl rfl (any_of HT_.out (by kernel_rfl)) (fun _ _ _ h => h) (Or.inl ⟨by rfl, ?_⟩) ?_ ?_
    rotate_left; · intro w'; go_simp; with_reducible rfl
    rotate_left; · simp only [pk, i64_w, i32_w]; rfl
    refine pure_ (i := 2) (N := some 14) (v := ?_) (a' := ?_) #[I, I, I, O, O, O, O, O] rfl rfl (any_of HT_.out (by kernel_rfl)) (fun _ _ _ h => h) (Or.inl ⟨by rfl, ?_⟩) ?_ ?_
    rotate_left; · intro w'; go_simp; with_reducible rfl
    rotate_left; · simp only [pk, i64_w, i32_w]; rfl
    refine pure_ (i := 3) (N := some 15) (v := ?_) (a' := ?_) #[I, I, I, I, O, O, O, O] rfl rfl (any_of HT_.out (by kernel_rfl)) (fun _ _ _ h => h) (Or.inl ⟨by rfl, ?_⟩) ?_ ?_
    rotate_left; · intro w'; go_simp; with_reducible rfl
    rotate_left; · simp only [pk, i64_w, i32_w]; rfl
    refine pure_ (i := 5) (N := some 17) (v := ?_) (a' := ?_) #[I, I, I, I, O, I, O, O] rfl rfl (any_of HT_.out (by kernel_rfl)) (fun _ _ _ h => h) (Or.inl ⟨by rfl, ?_⟩) ?_ ?_
    rotate_left; · intro w'; go_simp; with_reducible rfl
    rotate_left; · simp only [pk, i64_w, i32_w]; rfl
    refine take_ (i := 4) (N := some 16) (v := ?_) (a' := ?_) #[I, I, I, I, I, I, O, O] rfl rfl (take_ofW HT_.out HW_.out (by kernel_rfl)) (fun _ _ _ h => h) (Or.inl ⟨by rfl, ?_⟩) hHeld ?_ ?_
    rotate_left; · rintro w' ⟨s0, s1, s2, s3, s4⟩; go_simp; with_reducible rfl
    rotate_left; · simp only [pk, i64_w, i32_w]; rfl
    refine one_ (i := 6) (N := some 18) #[I, I, I, I, I, I, I, O] rfl rfl (one_of HT_.out (by kernel_rfl)) (by decide) (fun K hK => ?_)
    refine goes_ Try.func32 (by kernel_rfl) rfl #[.int .i64 x1_1] (by rfl) rfl rfl (by (try simp only [lm]); first | done | rfl | (simp only [List.length_drop, List.length_take]; rfl)) ?_
    with_reducible refine (laws_markText.calls k1 x1_1 t236 _ A5.out).mono ?_
    rintro e w19 ⟨rfl, hb⟩
    refine ⟨_, rfl, ?_⟩
    replace HB := As.mk (below_step (be w) hb)
    (try clear hb)
    (try clear hb2)
    (try clear hk)
    (try clear hi)
    refine hK.out _ _ ⟨(ce HB.out hw235_0 :), (ce HB.out hw235_1 :), (ce HB.out hw235_2 :), (ce HB.out hw235_3 :), (ce HB.out hw235_4 :)⟩ (fun hHeld => ?_)
    clear hK K
    refine norm_ (a' := ?_) ?_ ?_
    rotate_left
    ·
     show Act.put _ (some 18) _ = _
     simp only [pk, i64_w, i32_w]
     rfl
    refine pure_ (i := 7) (N := some 19) (v := ?_) (a' := ?_) #[I, I, I, I, I, I, I, I] rfl rfl (any_of HT_.out (by kernel_rfl)) (fun _ _ _ h => h) (Or.inl ⟨by rfl, ?_⟩) ?_ ?_
    rotate_left; · intro w'; go_simp; with_reducible rfl
    rotate_left; · simp only [pk, i64_w, i32_w]; rfl
    refine done_ (done_of HT_.out (by kernel_rfl)) ?_
    have p237 : 0 ≤ (x5_1 : Int) := od
    have q237 : x5_1 < (l0.length : Int) := od
    obtain ⟨ad237, A237_1, c237_1, e237, hx237_0, hx237_1, hx237_2, hx237_3, hx237_4, hl237_1, hi237_1⟩ := at_T44 HR0.out x5_1 p237 q237
    obtain rfl : ad235 = ad237 := (by injection e237)
    have ea_ := Option.some.inj (hx237_1.symm.trans hw235_1)
    injection ea_ with ea_ en_ ec_
    subst ea_
    subst ec_
    clear en_
    replace hx237_0 := ce HB.out hx237_0
    replace hx237_1 := ce HB.out hx237_1
    replace hx237_2 := ce HB.out hx237_2
    replace hx237_3 := ce HB.out hx237_3
    replace hx237_4 := ce HB.out hx237_4
    have HR237_1 := As.mk hi237_1
    have HC237_1 := As.mk hl237_1
    clear hi237_1 hl237_1
    replace p237 := eq_true p237
    replace q237 := eq_true q237
    try go_wp2_with (first | ((with_reducible refine gate_callee (f := 36) rfl ?_); refine goesL_ (some 28) rfl rfl Try.func36 (by kernel_rfl) rfl #[.slice A237_1 ((rd_T44 l0 x5_1).f1).length c237_1, .int .i64 (wrap64 (x1_1 + 1))] rfl (by (try simp only [lm]); first | done | rfl | (simp only [List.length_drop, List.length_take]; rfl)) ?_; (with_reducible refine (laws_heldParamS.calls k1 _ _ ((rd_T44 l0 x5_1).f1) (wrap64 (x1_1 + 1)) t238 _ ?side1 ?side2 A7.out).mono ?_); (case side1 => exact Kd.C_below HR237_1.out (be w)); (case side2 => exact HC237_1.out); rintro e w20 ⟨rfl, hb⟩; refine ⟨_, rfl, ?_⟩; replace HB := As.mk (below_step (be w) hb); (try clear hb); (try clear hb2); (try clear hk); (try clear hi); have p239 : 0 ≤ (x5_1 : Int) := od; have q239 : x5_1 < (l0.length : Int) := od; obtain ⟨ad239, A239_1, c239_1, e239, hx239_0, hx239_1, hx239_2, hx239_3, hx239_4, hl239_1, hi239_1⟩ := at_T44 HR0.out x5_1 p239 q239; obtain rfl : ad235 = ad239 := (by injection e239); replace hx239_0 := ce HB.out hx239_0; replace hx239_1 := ce HB.out hx239_1; replace hx239_2 := ce HB.out hx239_2; replace hx239_3 := ce HB.out hx239_3; replace hx239_4 := ce HB.out hx239_4; have HR239_1 := As.mk hi239_1; have HC239_1 := As.mk hl239_1; clear hi239_1 hl239_1; replace p239 := eq_true p239; replace q239 := eq_true q239; have p240 : 0 ≤ (x5_1 : Int) := od; have q240 : x5_1 < (l0.length : Int) := od; obtain ⟨ad240, A240_1, c240_1, e240, hx240_0, hx240_1, hx240_2, hx240_3, hx240_4, hl240_1, hi240_1⟩ := at_T44 HR0.out x5_1 p240 q240; obtain rfl : ad235 = ad240 := (by injection e240); replace hx240_0 := ce HB.out hx240_0; replace hx240_1 := ce HB.out hx240_1; replace hx240_2 := ce HB.out hx240_2; replace hx240_3 := ce HB.out hx240_3; replace hx240_4 := ce HB.out hx240_4; have HR240_1 := As.mk hi240_1; have HC240_1 := As.mk hl240_1; clear hi240_1 hl240_1; replace p240 := eq_true p240; replace q240 := eq_true q240; have ea_ := Option.some.inj (hx239_1.symm.trans hx240_1); injection ea_ with ea_ en_ ec_; subst ea_; subst ec_; clear en_; have p241 : 0 ≤ (x5_1 : Int) := od; have q241 : x5_1 < (l0.length : Int) := od; obtain ⟨ad241, A241_1, c241_1, e241, hx241_0, hx241_1, hx241_2, hx241_3, hx241_4, hl241_1, hi241_1⟩ := at_T44 HR0.out x5_1 p241 q241; obtain rfl : ad235 = ad241 := (by injection e241); replace hx241_0 := ce HB.out hx241_0; replace hx241_1 := ce HB.out hx241_1; replace hx241_2 := ce HB.out hx241_2; replace hx241_3 := ce HB.out hx241_3; replace hx241_4 := ce HB.out hx241_4; have HR241_1 := As.mk hi241_1; have HC241_1 := As.mk hl241_1; clear hi241_1 hl241_1; replace p241 := eq_true p241; replace q241 := eq_true q241; have ea_ := Option.some.inj (hx239_1.symm.trans hx241_1); injection ea_ with ea_ en_ ec_; subst ea_; subst ec_; clear en_))
    go_ret
    exact ⟨ez, be w⟩
   rw [if_pos c14] at H
   have c14b0 : (((rd_T44 l0 x5_1).f4) == (wrap64 ((wrap64 (t238 + 1)) + 1))) = true := beq_iff_eq.mpr c14
   have c14b1 : (((rd_T44 l0 x5_1).f4) != (wrap64 ((wrap64 (t238 + 1)) + 1))) = false := bne_eq_false_iff_eq.mpr c14
   clear c14
   have H' := As.mk H
   clear H
   try go_wp2
   replace HB := As.mk (below_drew1 HB.out)
   have p235 : 0 ≤ (x5_1 : Int) := od
   have q235 : x5_1 < (l0.length : Int) := od
   obtain ⟨ad235, A235_1, c235_1, e235, hx235_0, hx235_1, hx235_2, hx235_3, hx235_4, hl235_1, hi235_1⟩ := at_T44 HR0.out x5_1 p235 q235
   have hw235_4 := hx235_4
   have hw235_3 := hx235_3
   have hw235_2 := hx235_2
   have hw235_1 := hx235_1
   have hw235_0 := hx235_0
   cases e235
   replace hx235_0 := ce HB.out hx235_0
   replace hx235_1 := ce HB.out hx235_1
   replace hx235_2 := ce HB.out hx235_2
   replace hx235_3 := ce HB.out hx235_3
   replace hx235_4 := ce HB.out hx235_4
   have HR235_1 := As.mk hi235_1
   have HC235_1 := As.mk hl235_1
   clear hi235_1 hl235_1
   replace p235 := eq_true p235
   replace q235 := eq_true q235
   refine start_ (n := 8) (S := fun w' => w'.cell? (ad235.add ((x5_1).toNat * 5)) = some (.string ((rd_T44 l0 x5_1).f0)) ∧ w'.cell? ⟨(ad235.add ((x5_1).toNat * 5)).block, (ad235.add ((x5_1).toNat * 5)).off + 1, none⟩ = some (.slice A235_1 ((rd_T44 l0 x5_1).f1).length c235_1) ∧ w'.cell? ⟨(ad235.add ((x5_1).toNat * 5)).block, (ad235.add ((x5_1).toNat * 5)).off + 2, none⟩ = some (.int .i64 ((rd_T44 l0 x5_1).f2)) ∧ w'.cell? ⟨(ad235.add ((x5_1).toNat * 5)).block, (ad235.add ((x5_1).toNat * 5)).off + 3, none⟩ = some (.int .i64 ((rd_T44 l0 x5_1).f3)) ∧ w'.cell? ⟨(ad235.add ((x5_1).toNat * 5)).block, (ad235.add ((x5_1).toNat * 5)).off + 4, none⟩ = some (.int .i64 ((rd_T44 l0 x5_1).f4))) (ds := []) #[O, O, O, O, O, O, O, O] (by kernel_rfl) rfl rfl ⟨(ce HB.out hw235_0 :), (ce HB.out hw235_1 :), (ce HB.out hw235_2 :), (ce HB.out hw235_3 :), (ce HB.out hw235_4 :)⟩ (fun hHeld => ?_); refine with_tabW laws_heldFnS.tab4 laws_heldFnS.bits4 (fun HT_ HW_ => ?_)
   generalize wr.drew = w15 at HB HR235_1 hx235_0 hx235_1 hx235_2 hx235_3 hx235_4 hHeld ⊢
   refine pure_ (i := 0) (N := some 12) (v := ?_) (a' := ?_) #[I, O, O, O, O, O, O, O] rfl rfl (any_of HT_.out (by kernel_rfl)) (fun _ _ _ h => h) (Or.inl ⟨by rfl, ?_⟩) ?_ ?_
   rotate_left; · intro w'; go_simp; with_reducible rfl
   rotate_left; · simp only [pk, i64_w, i32_w]; rfl
   refine pure_ (i := 1) (N := some 13) (v := ?_) (a' := ?_) #[I, I, O, O, O, O, O, O] rfl rfl (any_of HT_.out (by kernel_rfl)) (fun _ _ _ h => h) (Or.inl ⟨by rfl, ?_⟩) ?_ ?_
   rotate_left; · intro w'; go_simp; with_reducible rfl
   rotate_left; · simp only [pk, i64_w, i32_w]; rfl
   refine pure_ (i := 2) (N := some 14) (v := ?_) (a' := ?_) #[I, I, I, O, O, O, O, O] rfl rfl (any_of HT_.out (by kernel_rfl)) (fun _ _ _ h => h) (Or.inl ⟨by rfl, ?_⟩) ?_ ?_
   rotate_left; · intro w'; go_simp; with_reducible rfl
   rotate_left; · simp only [pk, i64_w, i32_w]; rfl
   refine pure_ (i := 3) (N := some 15) (v := ?_) (a' := ?_) #[I, I, I, I, O, O, O, O] rfl rfl (any_of HT_.out (by kernel_rfl)) (fun _ _ _ h => h) (Or.inl ⟨by rfl, ?_⟩) ?_ ?_
   rotate_left; · intro w'; go_simp; with_reducible rfl
   rotate_left; · simp only [pk, i64_w, i32_w]; rfl
   refine pure_ (i := 5) (N := some 17) (v := ?_) (a' := ?_) #[I, I, I, I, O, I, O, O] rfl rfl (any_of HT_.out (by kernel_rfl)) (fun _ _ _ h => h) (Or.inl ⟨by rfl, ?_⟩) ?_ ?_
   rotate_left; · intro w'; go_simp; with_reducible rfl
   rotate_left; · simp only [pk, i64_w, i32_w]; rfl
   refine take_ (i := 4) (N := some 16) (v := ?_) (a' := ?_) #[I, I, I, I, I, I, O, O] rfl rfl (take_ofW HT_.out HW_.out (by kernel_rfl)) (fun _ _ _ h => h) (Or.inl ⟨by rfl, ?_⟩) hHeld ?_ ?_
   rotate_left; · rintro w' ⟨s0, s1, s2, s3, s4⟩; go_simp; with_reducible rfl
   rotate_left; · simp only [pk, i64_w, i32_w]; rfl
   refine one_ (i := 6) (N := some 18) #[I, I, I, I, I, I, I, O] rfl rfl (one_of HT_.out (by kernel_rfl)) (by decide) (fun K hK => ?_)
   refine goes_ Try.func32 (by kernel_rfl) rfl #[.int .i64 x1_1] (by rfl) rfl rfl (by (try simp only [lm]); first | done | rfl | (simp only [List.length_drop, List.length_take]; rfl)) ?_
   with_reducible refine (laws_markText.calls k1 x1_1 t236 _ A5.out).mono ?_
   rintro e w16 ⟨rfl, hb⟩
   refine ⟨_, rfl, ?_⟩
   replace HB := As.mk (below_step (be w) hb)
   (try clear hb)
   (try clear hb2)
   (try clear hk)
   (try clear hi)
   refine hK.out _ _ ⟨(ce HB.out hw235_0 :), (ce HB.out hw235_1 :), (ce HB.out hw235_2 :), (ce HB.out hw235_3 :), (ce HB.out hw235_4 :)⟩ (fun hHeld => ?_)
   clear hK K
   refine norm_ (a' := ?_) ?_ ?_
   rotate_left
   ·
    show Act.put _ (some 18) _ = _
    simp only [pk, i64_w, i32_w]
    rfl
   refine pure_ (i := 7) (N := some 19) (v := ?_) (a' := ?_) #[I, I, I, I, I, I, I, I] rfl rfl (any_of HT_.out (by kernel_rfl)) (fun _ _ _ h => h) (Or.inl ⟨by rfl, ?_⟩) ?_ ?_
   rotate_left; · intro w'; go_simp; with_reducible rfl
   rotate_left; · simp only [pk, i64_w, i32_w]; rfl
   refine done_ (done_of HT_.out (by kernel_rfl)) ?_
   have p237 : 0 ≤ (x5_1 : Int) := od
   have q237 : x5_1 < (l0.length : Int) := od
   obtain ⟨ad237, A237_1, c237_1, e237, hx237_0, hx237_1, hx237_2, hx237_3, hx237_4, hl237_1, hi237_1⟩ := at_T44 HR0.out x5_1 p237 q237
   obtain rfl : ad235 = ad237 := (by injection e237)
   have ea_ := Option.some.inj (hx237_1.symm.trans hw235_1)
   injection ea_ with ea_ en_ ec_
   subst ea_
   subst ec_
   clear en_
   replace hx237_0 := ce HB.out hx237_0
   replace hx237_1 := ce HB.out hx237_1
   replace hx237_2 := ce HB.out hx237_2
   replace hx237_3 := ce HB.out hx237_3
   replace hx237_4 := ce HB.out hx237_4
   have HR237_1 := As.mk hi237_1
   have HC237_1 := As.mk hl237_1
   clear hi237_1 hl237_1
   replace p237 := eq_true p237
   replace q237 := eq_true q237
   try go_wp2_with (first | ((with_reducible refine gate_callee (f := 36) rfl ?_); refine goesL_ (some 28) rfl rfl Try.func36 (by kernel_rfl) rfl #[.slice A237_1 ((rd_T44 l0 x5_1).f1).length c237_1, .int .i64 (wrap64 (x1_1 + 1))] rfl (by (try simp only [lm]); first | done | rfl | (simp only [List.length_drop, List.length_take]; rfl)) ?_; (with_reducible refine (laws_heldParamS.calls k1 _ _ ((rd_T44 l0 x5_1).f1) (wrap64 (x1_1 + 1)) t238 _ ?side1 ?side2 A7.out).mono ?_); (case side1 => exact Kd.C_below HR237_1.out (be w)); (case side2 => exact HC237_1.out); rintro e w17 ⟨rfl, hb⟩; refine ⟨_, rfl, ?_⟩; replace HB := As.mk (below_step (be w) hb); (try clear hb); (try clear hb2); (try clear hk); (try clear hi); have p239 : 0 ≤ (x5_1 : Int) := od; have q239 : x5_1 < (l0.length : Int) := od; obtain ⟨ad239, A239_1, c239_1, e239, hx239_0, hx239_1, hx239_2, hx239_3, hx239_4, hl239_1, hi239_1⟩ := at_T44 HR0.out x5_1 p239 q239; obtain rfl : ad235 = ad239 := (by injection e239); replace hx239_0 := ce HB.out hx239_0; replace hx239_1 := ce HB.out hx239_1; replace hx239_2 := ce HB.out hx239_2; replace hx239_3 := ce HB.out hx239_3; replace hx239_4 := ce HB.out hx239_4; have HR239_1 := As.mk hi239_1; have HC239_1 := As.mk hl239_1; clear hi239_1 hl239_1; replace p239 := eq_true p239; replace q239 := eq_true q239; have p240 : 0 ≤ (x5_1 : Int) := od; have q240 : x5_1 < (l0.length : Int) := od; obtain ⟨ad240, A240_1, c240_1, e240, hx240_0, hx240_1, hx240_2, hx240_3, hx240_4, hl240_1, hi240_1⟩ := at_T44 HR0.out x5_1 p240 q240; obtain rfl : ad235 = ad240 := (by injection e240); replace hx240_0 := ce HB.out hx240_0; replace hx240_1 := ce HB.out hx240_1; replace hx240_2 := ce HB.out hx240_2; replace hx240_3 := ce HB.out hx240_3; replace hx240_4 := ce HB.out hx240_4; have HR240_1 := As.mk hi240_1; have HC240_1 := As.mk hl240_1; clear hi240_1 hl240_1; replace p240 := eq_true p240; replace q240 := eq_true q240; have ea_ := Option.some.inj (hx239_1.symm.trans hx240_1); injection ea_ with ea_ en_ ec_; subst ea_; subst ec_; clear en_; have p241 : 0 ≤ (x5_1 : Int) := od; have q241 : x5_1 < (l0.length : Int) := od; obtain ⟨ad241, A241_1, c241_1, e241, hx241_0, hx241_1, hx241_2, hx241_3, hx241_4, hl241_1, hi241_1⟩ := at_T44 HR0.out x5_1 p241 q241; obtain rfl : ad235 = ad241 := (by injection e241); replace hx241_0 := ce HB.out hx241_0; replace hx241_1 := ce HB.out hx241_1; replace hx241_2 := ce HB.out hx241_2; replace hx241_3 := ce HB.out hx241_3; replace hx241_4 := ce HB.out hx241_4; have HR241_1 := As.mk hi241_1; have HC241_1 := As.mk hl241_1; clear hi241_1 hl241_1; replace p241 := eq_true p241; replace q241 := eq_true q241; have ea_ := Option.some.inj (hx239_1.symm.trans hx241_1); injection ea_ with ea_ en_ ec_; subst ea_; subst ec_; clear en_))
   go_roundg k1
   case measure => have := HK1.out; omega
   case rel => exact ⟨(wrap64 ((wrap64 ((wrap64 (t238 + 1)) + 1)) + 1)), (wrap64 (x5_1 + 1)), (by first | rfl | (simp; done) | (simp [*]; done)), (by first | rfl | (simp; done) | (simp [*]; done)), H', ⟨by have := HK1.out; omega⟩, ⟨be w⟩⟩
end Go.Proofs.Ytnepkmbknoanjaa.PFnExactPacked
