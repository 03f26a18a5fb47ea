/- Written by a program of this session (a turned copy of the kit's print): a contract for each Go function. No condition beside those in each statement. -/
import Derived.Test.YtnlhjblfemgggaaPFnExactLookedx0
import Derived.Test.YtnlhjblfemgggaaPFnExactLookedx1
import Derived.Test.YtnlhjblfemgggaaPFnExactLookedx2
import Derived.Test.YtnlhjblfemgggaaPFnExactLookedx3
import Derived.Test.YtnlhjblfemgggaaPFnExactLookedx4
namespace Go.Proofs.Ytnlhjblfemgggaa.PFnExactLooked
open Go.RowKit Go.Proofs.YtnlhjblfemgggaaW.PrintWords Go.Proofs.YtnlhjblfemgggaaW.PrintLast Go.Proofs.YtnlhjblfemgggaaW.PrintMore
attribute [local go_sem] max2_int min2_int max_two min_two max_three min_three max_four min_four   -- for this text's walks alone
set_option linter.unusedVariables false
set_option linter.unusedSimpArgs false

def laws_FnExactLooked.T5 : Bool × List (List Nat × List Nat) := (true, [([], []), ([0], [0]), ([], []), ([2, 1], [2]), ([1, 3, 3], [1, 3]), ([4], [4]), ([5], [5]), ([5], [5]), ([], []), ([8, 6, 4, 0, 1, 2, 3, 4, 5, 6, 8], [6, 8]), ([7, 9, 0, 1, 2, 3, 4, 5, 6, 7, 8, 9], [7])])
def laws_FnExactLooked.B5 : List Nat := [0, 1, 0, 7, 15, 31, 63, 63, 0, 383, 1023]
theorem laws_FnExactLooked.tab5 : rtab .any (opsOf Try.f8 5) = laws_FnExactLooked.T5 := by kernel_rfl
theorem laws_FnExactLooked.bits5 : waitsOk laws_FnExactLooked.T5.2 laws_FnExactLooked.B5 = true := by kernel_rfl
def laws_FnExactLooked.T7 : Bool × List (List Nat × List Nat) := (true, [([], []), ([], []), ([1], [1]), ([0, 2, 2], [0, 2]), ([3], [3]), ([4], [4]), ([4], [4]), ([], []), ([7, 5, 3, 0, 1, 2, 3, 4, 5, 7], [5, 7]), ([6, 8, 0, 1, 2, 3, 4, 5, 6, 7, 8], [6])])
def laws_FnExactLooked.B7 : List Nat := [0, 0, 2, 7, 15, 31, 31, 0, 191, 511]
theorem laws_FnExactLooked.tab7 : rtab .any (opsOf Try.f8 7) = laws_FnExactLooked.T7 := by kernel_rfl
theorem laws_FnExactLooked.bits7 : waitsOk laws_FnExactLooked.T7.2 laws_FnExactLooked.B7 = true := by kernel_rfl
def laws_FnExactLooked.T24 : Bool × List (List Nat × List Nat) := (true, [([], []), ([0], [0]), ([], []), ([2, 1], [2]), ([1, 3, 3], [1, 3]), ([4], [4]), ([5], [5]), ([5], [5]), ([], []), ([8, 6, 4, 0, 1, 2, 3, 4, 5, 6, 8], [6, 8]), ([7, 9, 0, 1, 2, 3, 4, 5, 6, 7, 8, 9], [7])])
def laws_FnExactLooked.B24 : List Nat := [0, 1, 0, 7, 15, 31, 63, 63, 0, 383, 1023]
theorem laws_FnExactLooked.tab24 : rtab .any (opsOf Try.f8 24) = laws_FnExactLooked.T24 := by kernel_rfl
theorem laws_FnExactLooked.bits24 : waitsOk laws_FnExactLooked.T24.2 laws_FnExactLooked.B24 = true := by kernel_rfl
set_option maxHeartbeats 8000000 in
set_option maxRecDepth 100000 in
def laws_FnExactLooked.callsP0 :
  {G_ : Prop // RestG G_ → ∀ (k : Nat) (A0_0 : Option Addr) (c0_0 : Nat) (l0_0 : List (S98)) (A0_1 : Option Addr) (c0_1 : Nat) (l0_1 : List Int) (A0_2 : Option Addr) (c0_2 : Nat) (l0_2 : List Int) (a0_3 : Int) (a0_4 : Int) (a1_0 : Int) (a1_1 : Int) (r : Bool) (w : World) (hr0_0 : Kd.C k98 w A0_0 l0_0.length l0_0) (hc0_0 : l0_0.length ≤ c0_0) (hr0_1 : Kd.C (Kd.int .i64) w A0_1 l0_1.length l0_1) (hc0_1 : l0_1.length ≤ c0_1) (hr0_2 : Kd.C (Kd.int .i64) w A0_2 l0_2.length l0_2) (hc0_2 : l0_2.length ≤ c0_2) (hrt : As (r = true)) (h : laws_FnExactLooked.f k l0_0 l0_1 l0_2 a0_3 a0_4 a1_0 a1_1 = some r),
  Calls Try.prog 8 #[.agg #[.slice A0_0 l0_0.length c0_0, .slice A0_1 l0_1.length c0_1, .slice A0_2 l0_2.length c0_2, .int .i64 a0_3, .int .i64 a0_4], .agg #[.int .i64 a1_0, .int .i64 a1_1]] w fun e w' => e = .returned (.bool r) ∧ Below w.heap.size w w'} := ⟨_, by
 intro hG_
 intro k A0_0 c0_0 l0_0 A0_1 c0_1 l0_1 A0_2 c0_2 l0_2 a0_3 a0_4 a1_0 a1_1 r w hr0_0 hc0_0 hr0_1 hc0_1 hr0_2 hc0_2 hrt h
 have hu47 := Try.underlying47
 have hu48 := Try.underlying48
 have hu34 := Try.underlying34
 have HR0_0 := As.mk hr0_0
 have HC0_0 := As.mk hc0_0
 clear hr0_0 hc0_0
 have HR0_1 := As.mk hr0_1
 have HC0_1 := As.mk hc0_1
 clear hr0_1 hc0_1
 have HR0_2 := As.mk hr0_2
 have HC0_2 := As.mk hc0_2
 clear hr0_2 hc0_2
 have HB := As.mk (Below.refl w.heap.size w)
 have H : ((laws_szMemory.f l0_0 l0_1 l0_2 a0_3 a0_4 1048576).bind fun t260 => (if t260 < 0 then (some true) else (laws_FnExactLooked.j0 k l0_0 l0_1 l0_2 a0_3 a0_4 a1_0 a1_1))) = some r := h
 clear h
 obtain ⟨t260, A30, H⟩ := Option.bind_eq_some_iff.mp H
 try dsimp only at H
 have A3 := As.mk A30
 clear A30
 have HC4 := As.mk H
 clear H
 go_enter Try.func8, Try.ntmps8
 go_upto_if 20 with (first | ((with_reducible refine gate_dst (N := 2) rfl ?_); refine box_event ?hg (N := 2) ?hd (cs := #[.slice A0_0 l0_0.length c0_0, .slice A0_1 l0_1.length c0_1, .slice A0_2 l0_2.length c0_2, .int .i64 a0_3, .int .i64 a0_4]) (t := 47) ?hr ?_; (case hd => rfl); (case hg => rfl); (case hr => first | (go_simp; done) | (go_simp; rfl)); intro gb258 hg w5 hbox hb; have BK258 := As.mk (hbox); have GW258 := As.mk (gs w hg); have GE258 := As.mk (gs w hg); replace HB := As.mk (below_step (be w) hb); clear hb hbox hg) | ((with_reducible refine gate_dst (N := 3) rfl ?_); refine box_event ?hg (N := 3) ?hd (cs := #[.int .i64 a1_0, .int .i64 a1_1]) (t := 48) ?hr ?_; (case hd => rfl); (case hg => rfl); (case hr => first | (go_simp; done) | (go_simp; rfl)); intro gb259 hg w6 hbox hb; have BK259 := As.mk (hbox); have GW259 := As.mk (gs w hg); have GE259 := As.mk (gs w hg); replace HB := As.mk (below_step (be w) hb); have NB258_259 := As.mk (nl hg (bx BK258.out)); have NB259_258 := As.mk (ng hg (bx BK258.out)); replace BK258 := As.mk (blk_below (bx BK258.out) hb); clear hb hbox hg; have hnb7 := NB258_259.out; have hnc7 := NB259_258.out; obtain ⟨hcz8_0, hcz8_1, hcz8_2, hcz8_3, hcz8_4, hfz8_0, hfz8_1, hfz8_2, hfz8_3, hfz8_4⟩ := cl5 BK258.out) | ((with_reducible refine gate_callee (f := 23) rfl ?_); refine goesL_ (some 18) rfl rfl Try.func23 (by kernel_rfl) rfl #[.agg #[.slice A0_0 l0_0.length c0_0, .slice A0_1 l0_1.length c0_1, .slice A0_2 l0_2.length c0_2, .int .i64 a0_3, .int .i64 a0_4], .int .i64 1048576] rfl (by (try simp only [lm]); first | done | rfl | (simp only [List.length_drop, List.length_take]; rfl)) ?_; (with_reducible refine (laws_szMemory.calls _ _ l0_0 _ _ l0_1 _ _ l0_2 a0_3 a0_4 1048576 t260 _ ?side1 ?side2 ?side3 ?side4 ?side5 ?side6 A3.out).mono ?_); (case side1 => exact Kd.C_below HR0_0.out (be w)); (case side2 => exact HC0_0.out); (case side3 => exact Kd.C_below HR0_1.out (be w)); (case side4 => exact HC0_1.out); (case side5 => exact Kd.C_below HR0_2.out (be w)); (case side6 => exact HC0_2.out); rintro e w9 ⟨rfl, hb⟩; refine ⟨_, rfl, ?_⟩; replace BK258 := As.mk (blk_below (bx BK258.out) hb); replace BK259 := As.mk (blk_below (bx BK259.out) hb); replace HB := As.mk (below_step (be w) hb); (try clear hb); (try clear hb2); (try clear hk); (try clear hi)))
 (try simp only [pk])
 go_cut [] (fun wc => ∃ (kq : Nat), As (laws_FnExactLooked.j0 kq l0_0 l0_1 l0_2 a0_3 a0_4 a1_0 a1_1 = some r) ∧ As (kq ≤ k) ∧ As (wc.heap[gb258]? = some (.cells #[(.slice A0_0 l0_0.length c0_0), (.slice A0_1 l0_1.length c0_1), (.slice A0_2 l0_2.length c0_2), .int .i64 a0_3, .int .i64 a0_4] 47 (0, 0))) ∧ As (wc.heap[gb259]? = some (.cells #[.int .i64 a1_0, .int .i64 a1_1] 48 (0, 0))) ∧ As (Below w.heap.size w wc))
 case first =>
  have H := HC4.out
  clear HC4
  by_cases c10 : t260 < 0
  ·
   rw [if_pos c10] at H
   have c10b0 : decide (t260 < 0) = true := decide_eq_true c10
   clear c10
   (first | rw [c10b0] | (simp only [i64_w, i32_w]; rw [c10b0]) | skip)
   obtain rfl := Option.some.inj H
   go_wp2
   go_ret
   exact ⟨by first | rfl | (simp [errW_none, errW_some] <;> rfl) | (simp [*, errW_none, errW_some] <;> rfl), be w⟩
  rw [if_neg c10] at H
  have c10b0 : decide (t260 < 0) = false := decide_eq_false c10
  clear c10
  (first | rw [c10b0] | (simp only [i64_w, i32_w]; rw [c10b0]) | skip)
  have H' := As.mk H
  clear H
  go_wp2
  go_meet
  case rel => exact ⟨_, H', ⟨by first | omega | exact Nat.le_refl _⟩, ⟨bx BK258.out⟩, ⟨bx BK259.out⟩, ⟨be w⟩⟩
 case rest =>
  clear HC4
  (try clear hcz8_0); (try clear hcz8_1); (try clear hcz8_2); (try clear hcz8_3); (try clear hcz8_4); (try clear hfz8_0); (try clear hfz8_1); (try clear hfz8_2); (try clear hfz8_3); (try clear hfz8_4)
  obtain ⟨kq, HA, HJ3, BK258, BK259, HB⟩ := hcut
  cases kq with
  | zero => exact absurd HA.out (by simp [laws_FnExactLooked.j0])
  | succ kj3 =>
   have H := HA.out
   clear HA
   simp only [laws_FnExactLooked.j0] at H
   obtain ⟨⟨t261, t264, t267, t270, t271⟩, A110, H⟩ := Option.bind_eq_some_iff.mp H
   try dsimp only at H
   have A11 := As.mk A110
   clear A110
   obtain ⟨⟨t272, t273⟩, A120, H⟩ := Option.bind_eq_some_iff.mp H
   try dsimp only at H
   have A12 := As.mk A120
   clear A120
   obtain ⟨⟨t274, t277, t280, t283, t284, t285⟩, A130, H⟩ := Option.bind_eq_some_iff.mp H
   try dsimp only at H
   have A13 := As.mk A130
   clear A130
   obtain ⟨⟨t287, t290, t293, t296, t297⟩, A140, H⟩ := Option.bind_eq_some_iff.mp H
   try dsimp only at H
   have A14 := As.mk A140
   clear A140
   obtain ⟨⟨t299, t300⟩, A150, H⟩ := Option.bind_eq_some_iff.mp H
   try dsimp only at H
   have A15 := As.mk A150
   clear A150
   obtain ⟨⟨t301, t304, t307, t310, t311, t312⟩, A160, H⟩ := Option.bind_eq_some_iff.mp H
   try dsimp only at H
   have A16 := As.mk A160
   clear A160
   have HC17 := As.mk H
   clear H
   try go_wp2
   replace BK258 := As.mk (blk_drew BK258.out)
   replace BK259 := As.mk (blk_drew BK259.out)
   replace HB := As.mk (below_drew1 HB.out)
   refine start_ (n := 11) (S := fun w' => w'.cell? ⟨gb258, 0, none⟩ = some (.slice A0_0 l0_0.length c0_0) ∧ w'.cell? ⟨gb258, 1, none⟩ = some (.slice A0_1 l0_1.length c0_1) ∧ w'.cell? ⟨gb258, 2, none⟩ = some (.slice A0_2 l0_2.length c0_2) ∧ w'.cell? ⟨gb258, 3, none⟩ = some (.int .i64 a0_3) ∧ w'.cell? ⟨gb258, 4, none⟩ = some (.int .i64 a0_4) ∧ w'.cell? ⟨gb259, 0, none⟩ = some (.int .i64 a1_0) ∧ w'.cell? ⟨gb259, 1, none⟩ = some (.int .i64 a1_1)) (ds := []) #[O, O, O, O, O, O, O, O, O, O, O] (by kernel_rfl) rfl rfl ⟨(blk_cell BK258.out 0).trans rfl, (blk_cell BK258.out 1).trans rfl, (blk_cell BK258.out 2).trans rfl, (blk_cell BK258.out 3).trans rfl, (blk_cell BK258.out 4).trans rfl, (blk_cell BK259.out 0).trans rfl, (blk_cell BK259.out 1).trans rfl⟩ (fun hHeld => ?_); refine with_tabW laws_FnExactLooked.tab5 laws_FnExactLooked.bits5 (fun HT_ HW_ => ?_)
   generalize wc.drew = w18 at BK258 BK259 HB hHeld ⊢
   refine take_ (i := 0) (N := some 22) (v := ?_) (a' := ?_) #[I, O, O, O, O, O, O, O, O, O, O] rfl rfl (take_ofW HT_.out HW_.out (by kernel_rfl)) (fun _ _ _ h => h) (Or.inl ⟨by rfl, ?_⟩) hHeld ?_ ?_
   rotate_left
   ·
    rintro w' ⟨s0, s1, s2, s3, s4, s5, s6⟩
    go_simp
    with_reducible rfl
   rotate_left
   ·
    simp only [pk, i64_w, i32_w]
    rfl
   refine take_ (i := 2) (N := some 24) (v := ?_) (a' := ?_) #[I, O, I, O, O, O, O, O, O, O, O] rfl rfl (take_ofW HT_.out HW_.out (by kernel_rfl)) (fun _ _ _ h => h) (Or.inl ⟨by rfl, ?_⟩) hHeld ?_ ?_
   rotate_left
   ·
    rintro w' ⟨s0, s1, s2, s3, s4, s5, s6⟩
    go_simp
    with_reducible rfl
   rotate_left
   ·
    simp only [pk, i64_w, i32_w]
    rfl
   refine join_ (σ := Value × Value × Value × Value × Value × Value × Nat) 2 #[true, true, true, true, true, true, true, true, true, false, false] (fun s_ => [(23, .agg #[s_.1, s_.2.1, s_.2.2.1, .int .i64 t270, .int .i64 t271]), (25, .agg #[.int .i64 t272, .int .i64 t273]), (26, .tuple #[.agg #[s_.2.2.2.1, s_.2.2.2.2.1, s_.2.2.2.2.2.1, .int .i64 t283, .int .i64 t284], .int .i64 t285]), (6, .pointer (some ⟨s_.2.2.2.2.2.2, 0, none⟩)), (21, .tuple #[.agg #[s_.2.2.2.1, s_.2.2.2.2.1, s_.2.2.2.2.2.1, .int .i64 t283, .int .i64 t284], .int .i64 t285]), (27, .agg #[s_.2.2.2.1, s_.2.2.2.2.1, s_.2.2.2.2.2.1, .int .i64 t283, .int .i64 t284]), (28, .int .i64 t285)]) (fun s_ w' => (w'.cell? ⟨gb258, 0, none⟩ = some (.slice A0_0 l0_0.length c0_0) ∧ w'.cell? ⟨gb258, 1, none⟩ = some (.slice A0_1 l0_1.length c0_1) ∧ w'.cell? ⟨gb258, 2, none⟩ = some (.slice A0_2 l0_2.length c0_2) ∧ w'.cell? ⟨gb258, 3, none⟩ = some (.int .i64 a0_3) ∧ w'.cell? ⟨gb258, 4, none⟩ = some (.int .i64 a0_4) ∧ w'.cell? ⟨gb259, 0, none⟩ = some (.int .i64 a1_0) ∧ w'.cell? ⟨gb259, 1, none⟩ = some (.int .i64 a1_1)) ∧ (Kd.R k93 93 w' w.heap.size (fun k_ => some k_ ≠ (s_.2.2.2.1 : Value).ownBlock) s_.1 t261) ∧ (Kd.R (Kd.int .i64) 3 w' w.heap.size (fun k_ => some k_ ≠ (s_.2.2.1 : Value).ownBlock ∧ some k_ ≠ (s_.2.2.2.2.1 : Value).ownBlock ∧ some k_ ≠ (s_.2.2.2.2.2.1 : Value).ownBlock) s_.2.1 t264) ∧ (Kd.R (Kd.int .i64) 3 w' w.heap.size (fun k_ => some k_ ≠ (s_.2.1 : Value).ownBlock ∧ some k_ ≠ (s_.2.2.2.2.1 : Value).ownBlock ∧ some k_ ≠ (s_.2.2.2.2.2.1 : Value).ownBlock) s_.2.2.1 t267) ∧ (Kd.R k93 93 w' w.heap.size (fun k_ => some k_ ≠ (s_.1 : Value).ownBlock) s_.2.2.2.1 t274) ∧ (Kd.R (Kd.int .i64) 3 w' w.heap.size (fun k_ => some k_ ≠ (s_.2.1 : Value).ownBlock ∧ some k_ ≠ (s_.2.2.1 : Value).ownBlock ∧ some k_ ≠ (s_.2.2.2.2.2.1 : Value).ownBlock) s_.2.2.2.2.1 t277) ∧ (Kd.R (Kd.int .i64) 3 w' w.heap.size (fun k_ => some k_ ≠ (s_.2.1 : Value).ownBlock ∧ some k_ ≠ (s_.2.2.1 : Value).ownBlock ∧ some k_ ≠ (s_.2.2.2.2.1 : Value).ownBlock) s_.2.2.2.2.2.1 t280) ∧ (w'.heap[gb258]? = some (.cells #[.slice A0_0 l0_0.length c0_0, .slice A0_1 l0_1.length c0_1, .slice A0_2 l0_2.length c0_2, .int .i64 a0_3, .int .i64 a0_4] 47 (0, 0))) ∧ (w'.heap[gb259]? = some (.cells #[.int .i64 a1_0, .int .i64 a1_1] 48 (0, 0))) ∧ (w'.heap[s_.2.2.2.2.2.2]? = some (.cells #[.slice none 0 0, .slice none 0 0, .slice none 0 0, .int .i64 0, .int .i64 0] 34 (0, 0))) ∧ (w.heap.size ≤ s_.2.2.2.2.2.2) ∧ (w.heap.size ≤ s_.2.2.2.2.2.2) ∧ (gb258 ≠ s_.2.2.2.2.2.2) ∧ (s_.2.2.2.2.2.2 ≠ gb258) ∧ (gb259 ≠ s_.2.2.2.2.2.2) ∧ (s_.2.2.2.2.2.2 ≠ gb259) ∧ (Below w.heap.size w w')) ?_ ?_
   rotate_left
   ·
    intro hCont
    refine two_ (i := 1) (j := 8) (Ni := some 23) (Nj := some 6) #[true, true, true, false, false, false, false, false, false, false, false] #[true, false, true, false, false, false, false, false, true, false, false] rfl rfl rfl rfl (two_of HT_.out (by kernel_rfl)) (by decide) (by decide) (fun K hK => ?_) (fun K hK => ?_)
    ·
     skip
     refine goes_ Try.func25 (by kernel_rfl) rfl #[.agg #[.slice A0_0 l0_0.length c0_0, .slice A0_1 l0_1.length c0_1, .slice A0_2 l0_2.length c0_2, .int .i64 a0_3, .int .i64 a0_4]] (by rfl) rfl rfl (by (try simp only [lm]); first | done | rfl | (simp only [List.length_drop, List.length_take]; rfl)) ?_
     with_reducible refine (laws_toMemory.calls kj3 _ _ l0_0 _ _ l0_1 _ _ l0_2 a0_3 a0_4 t261 t264 t267 t270 t271 _ ?side1 ?side2 ?side3 ?side4 ?side5 ?side6 A11.out).mono ?_
     (case side1 => exact Kd.C_below HR0_0.out (be w))
     (case side2 => exact HC0_0.out)
     (case side3 => exact Kd.C_below HR0_1.out (be w))
     (case side4 => exact HC0_1.out)
     (case side5 => exact Kd.C_below HR0_2.out (be w))
     (case side6 => exact HC0_2.out)
     rintro e w19 ⟨v262, v265, v268, rfl, ho0, ho1, ho2, hb⟩
     refine ⟨_, rfl, ?_⟩
     have HO263 := As.mk (Kd.R_lower ho0 (below_size (be w)))
     have HO266 := As.mk (Kd.R_lower ho1 (below_size (be w)))
     have HO269 := As.mk (Kd.R_lower ho2 (below_size (be w)))
     replace BK258 := As.mk (blk_below (bx BK258.out) hb)
     replace BK259 := As.mk (blk_below (bx BK259.out) hb)
     replace HB := As.mk (below_step (be w) hb)
     (try clear hb)
     (try clear hb2)
     (try clear hk)
     (try clear hi)
     (try clear ho0)
     (try clear ho1)
     (try clear ho2)
     refine hK.out _ _ ⟨(blk_cell BK258.out 0).trans rfl, (blk_cell BK258.out 1).trans rfl, (blk_cell BK258.out 2).trans rfl, (blk_cell BK258.out 3).trans rfl, (blk_cell BK258.out 4).trans rfl, (blk_cell BK259.out 0).trans rfl, (blk_cell BK259.out 1).trans rfl⟩ (fun hHeld => ?_)
     clear hK K
     refine norm_ (a' := ?_) ?_ ?_
     rotate_left
     ·
      show Act.put _ (some 23) _ = _
      simp only [pk, i64_w, i32_w]
      rfl
     refine two_ (i := 3) (j := 8) (Ni := some 25) (Nj := some 6) #[true, true, true, true, false, false, false, false, false, false, false] #[true, true, true, false, false, false, false, false, true, false, false] rfl rfl rfl rfl (two_of HT_.out (by kernel_rfl)) (by decide) (by decide) (fun K hK => ?_) (fun K hK => ?_)
     ·
      skip
      refine goes_ Try.func26 (by kernel_rfl) rfl #[.agg #[.int .i64 a1_0, .int .i64 a1_1]] (by rfl) rfl rfl (by (try simp only [lm]); first | done | rfl | (simp only [List.length_drop, List.length_take]; rfl)) ?_
      with_reducible refine (laws_toValue.calls a1_0 a1_1 t272 t273 _ A12.out).mono ?_
      rintro e w20 ⟨rfl, hb⟩
      refine ⟨_, rfl, ?_⟩
      replace HO263 := As.mk (Kd.R_below (by (with_reducible repeat (first | apply Kd.R_alloc | apply Kd.R_drewN | apply Kd.R_drew)); exact HO263.out) hb)
      replace HO266 := As.mk (Kd.R_below (by (with_reducible repeat (first | apply Kd.R_alloc | apply Kd.R_drewN | apply Kd.R_drew)); exact HO266.out) hb)
      replace HO269 := As.mk (Kd.R_below (by (with_reducible repeat (first | apply Kd.R_alloc | apply Kd.R_drewN | apply Kd.R_drew)); exact HO269.out) hb)
      replace BK258 := As.mk (blk_below (bx BK258.out) hb)
      replace BK259 := As.mk (blk_below (bx BK259.out) hb)
      replace HB := As.mk (below_step (be w) hb)
      (try clear hb)
      (try clear hb2)
      (try clear hk)
      (try clear hi)
      obtain ⟨Ao21, co21, eo21⟩ := Kd.R_slice HO263.out
      (first | subst eo21 | (injection eo21 with f1_ f2_ f3_; have f4_ := f1_.symm; have f5_ := f3_.symm; clear f1_ f2_ f3_; subst f4_; subst f5_))
      obtain ⟨Ao22, co22, eo22⟩ := Kd.R_slice HO266.out
      (first | subst eo22 | (injection eo22 with f1_ f2_ f3_; have f4_ := f1_.symm; have f5_ := f3_.symm; clear f1_ f2_ f3_; subst f4_; subst f5_))
      obtain ⟨Ao23, co23, eo23⟩ := Kd.R_slice HO269.out
      (first | subst eo23 | (injection eo23 with f1_ f2_ f3_; have f4_ := f1_.symm; have f5_ := f3_.symm; clear f1_ f2_ f3_; subst f4_; subst f5_))
      refine hK.out _ _ ⟨(blk_cell BK258.out 0).trans rfl, (blk_cell BK258.out 1).trans rfl, (blk_cell BK258.out 2).trans rfl, (blk_cell BK258.out 3).trans rfl, (blk_cell BK258.out 4).trans rfl, (blk_cell BK259.out 0).trans rfl, (blk_cell BK259.out 1).trans rfl⟩ (fun hHeld => ?_)
      clear hK K
      refine norm_ (a' := ?_) ?_ ?_
      rotate_left
      ·
       show Act.put _ (some 25) _ = _
       simp only [pk, i64_w, i32_w]
       rfl
      refine two_ (i := 4) (j := 8) (Ni := some 26) (Nj := some 6) #[true, true, true, true, true, false, false, false, false, false, false] #[true, true, true, true, false, false, false, false, true, false, false] rfl rfl rfl rfl (two_of HT_.out (by kernel_rfl)) (by decide) (by decide) (fun K hK => ?_) (fun K hK => ?_)
      ·
       skip
       refine goes_ Try.func33 (by kernel_rfl) rfl #[.agg #[.slice Ao21 t261.length co21, .slice Ao22 t264.length co22, .slice Ao23 t267.length co23, .int .i64 t270, .int .i64 t271], .agg #[.int .i64 t272, .int .i64 t273]] (by rfl) rfl rfl (by (try simp only [lm]); first | done | rfl | (simp only [List.length_drop, List.length_take]; rfl)) ?_
       with_reducible refine (spec_Looked.calls _ _ t261 _ _ t264 _ _ t267 t270 t271 t272 t273 t274 t277 t280 t283 t284 t285 _ ?side1 ?side2 ?side3 ?side4 ?side5 ?side6 A13.out).mono ?_
       (case side1 => repeat (first | exact (Kd.R_reads' HO263.out).2.2 | (with_reducible refine Kd.C_alloc ?_ _) | (with_reducible refine Kd.C_drewN ?_ _) | (with_reducible refine Kd.C_drew ?_)))
       (case side2 => exact (Kd.R_reads' HO263.out).2.1)
       (case side3 => repeat (first | exact (Kd.R_reads' HO266.out).2.2 | (with_reducible refine Kd.C_alloc ?_ _) | (with_reducible refine Kd.C_drewN ?_ _) | (with_reducible refine Kd.C_drew ?_)))
       (case side4 => exact (Kd.R_reads' HO266.out).2.1)
       (case side5 => repeat (first | exact (Kd.R_reads' HO269.out).2.2 | (with_reducible refine Kd.C_alloc ?_ _) | (with_reducible refine Kd.C_drewN ?_ _) | (with_reducible refine Kd.C_drew ?_)))
       (case side6 => exact (Kd.R_reads' HO269.out).2.1)
       rintro e w24 ⟨v275, v278, v281, rfl, ho0, ho1, ho2, hb⟩
       refine ⟨_, rfl, ?_⟩
       have HO276 := As.mk (Kd.R_lower (Kd.R_new' ho0 (Kd.R_lt (by (with_reducible repeat (first | apply Kd.R_alloc | apply Kd.R_drewN | apply Kd.R_drew)); exact HO263.out))) (below_size (be w)))
       replace HO263 := As.mk (Kd.R_elder' (by (with_reducible repeat (first | apply Kd.R_alloc | apply Kd.R_drewN | apply Kd.R_drew)); exact HO263.out) (Kd.R_base ho0) hb)
       have HO279 := As.mk (Kd.R_lower (Kd.R_new' (Kd.R_new' ho1 (Kd.R_lt (by (with_reducible repeat (first | apply Kd.R_alloc | apply Kd.R_drewN | apply Kd.R_drew)); exact HO266.out))) (Kd.R_lt (by (with_reducible repeat (first | apply Kd.R_alloc | apply Kd.R_drewN | apply Kd.R_drew)); exact HO269.out))) (below_size (be w)))
       have HO282 := As.mk (Kd.R_lower (Kd.R_new' (Kd.R_new' ho2 (Kd.R_lt (by (with_reducible repeat (first | apply Kd.R_alloc | apply Kd.R_drewN | apply Kd.R_drew)); exact HO266.out))) (Kd.R_lt (by (with_reducible repeat (first | apply Kd.R_alloc | apply Kd.R_drewN | apply Kd.R_drew)); exact HO269.out))) (below_size (be w)))
       replace HO266 := As.mk (Kd.R_mono (Kd.R_told (Kd.R_told (Kd.R_old (by (with_reducible repeat (first | apply Kd.R_alloc | apply Kd.R_drewN | apply Kd.R_drew)); exact HO266.out) hb) (Kd.R_base ho1)) (Kd.R_base ho2)) (fun _ h_ => h_.1))
       replace HO269 := As.mk (Kd.R_mono (Kd.R_told (Kd.R_told (Kd.R_old (by (with_reducible repeat (first | apply Kd.R_alloc | apply Kd.R_drewN | apply Kd.R_drew)); exact HO269.out) hb) (Kd.R_base ho1)) (Kd.R_base ho2)) (fun _ h_ => h_.1))
       replace BK258 := As.mk (blk_below (bx BK258.out) hb)
       replace BK259 := As.mk (blk_below (bx BK259.out) hb)
       replace HB := As.mk (below_step (be w) hb)
       (try clear hb)
       (try clear hb2)
       (try clear hk)
       (try clear hi)
       (try clear ho0)
       (try clear ho1)
       (try clear ho2)
       refine hK.out _ _ ⟨(blk_cell BK258.out 0).trans rfl, (blk_cell BK258.out 1).trans rfl, (blk_cell BK258.out 2).trans rfl, (blk_cell BK258.out 3).trans rfl, (blk_cell BK258.out 4).trans rfl, (blk_cell BK259.out 0).trans rfl, (blk_cell BK259.out 1).trans rfl⟩ (fun hHeld => ?_)
       clear hK K
       refine norm_ (a' := ?_) ?_ ?_
       rotate_left
       ·
        show Act.put _ (some 26) _ = _
        simp only [pk, i64_w, i32_w]
        rfl
       refine pure_ (i := 5) (N := some 21) (v := ?_) (a' := ?_) #[I, I, I, I, I, I, O, O, O, O, O] rfl rfl (any_of HT_.out (by kernel_rfl)) (fun _ _ _ h => h) (Or.inl ⟨by rfl, ?_⟩) ?_ ?_
       rotate_left
       ·
        intro w'
        go_simp
        with_reducible rfl
       rotate_left
       ·
        simp only [pk, i64_w, i32_w]
        rfl
       refine pure_ (i := 6) (N := some 27) (v := ?_) (a' := ?_) #[I, I, I, I, I, I, I, O, O, O, O] rfl rfl (any_of HT_.out (by kernel_rfl)) (fun _ _ _ h => h) (Or.inl ⟨by rfl, ?_⟩) ?_ ?_
       rotate_left
       ·
        intro w'
        go_simp
        with_reducible rfl
       rotate_left
       ·
        simp only [pk, i64_w, i32_w]
        rfl
       refine pure_ (i := 7) (N := some 28) (v := ?_) (a' := ?_) #[I, I, I, I, I, I, I, I, O, O, O] rfl rfl (any_of HT_.out (by kernel_rfl)) (fun _ _ _ h => h) (Or.inl ⟨by rfl, ?_⟩) ?_ ?_
       rotate_left
       ·
        intro w'
        go_simp
        with_reducible rfl
       rotate_left
       ·
        simp only [pk, i64_w, i32_w]
        rfl
       refine one_ (i := 8) (N := some 6) #[I, I, I, I, I, I, I, I, I, O, O] rfl rfl (one_of HT_.out (by kernel_rfl)) (by decide) (fun K hK => ?_)
       refine box_step ?hg (N := 6) ?hd (cs := #[.slice none 0 0, .slice none 0 0, .slice none 0 0, .int .i64 0, .int .i64 0]) (t := 34) ?hr ?_; (case hd => rfl); (case hg => rfl); (case hr => first | (go_simp; done) | (go_simp; rfl))
       intro gb286 hg w25 hbox hb
       replace HO263 := As.mk (Kd.R_below (by (with_reducible repeat (first | apply Kd.R_alloc | apply Kd.R_drewN | apply Kd.R_drew)); exact HO263.out) hb)
       replace HO266 := As.mk (Kd.R_below (by (with_reducible repeat (first | apply Kd.R_alloc | apply Kd.R_drewN | apply Kd.R_drew)); exact HO266.out) hb)
       replace HO269 := As.mk (Kd.R_below (by (with_reducible repeat (first | apply Kd.R_alloc | apply Kd.R_drewN | apply Kd.R_drew)); exact HO269.out) hb)
       replace HO276 := As.mk (Kd.R_below (by (with_reducible repeat (first | apply Kd.R_alloc | apply Kd.R_drewN | apply Kd.R_drew)); exact HO276.out) hb)
       replace HO279 := As.mk (Kd.R_below (by (with_reducible repeat (first | apply Kd.R_alloc | apply Kd.R_drewN | apply Kd.R_drew)); exact HO279.out) hb)
       replace HO282 := As.mk (Kd.R_below (by (with_reducible repeat (first | apply Kd.R_alloc | apply Kd.R_drewN | apply Kd.R_drew)); exact HO282.out) hb)
       have BK286 := As.mk (hbox)
       have GW286 := As.mk (gs w hg)
       have GE286 := As.mk (gs w hg)
       replace HB := As.mk (below_step (be w) hb)
       have NB258_286 := As.mk (nl hg (bx BK258.out))
       have NB286_258 := As.mk (ng hg (bx BK258.out))
       replace BK258 := As.mk (blk_below (bx BK258.out) hb)
       have NB259_286 := As.mk (nl hg (bx BK259.out))
       have NB286_259 := As.mk (ng hg (bx BK259.out))
       replace BK259 := As.mk (blk_below (bx BK259.out) hb)
       clear hb hbox hg
       refine hK.out _ _ ⟨(blk_cell BK258.out 0).trans rfl, (blk_cell BK258.out 1).trans rfl, (blk_cell BK258.out 2).trans rfl, (blk_cell BK258.out 3).trans rfl, (blk_cell BK258.out 4).trans rfl, (blk_cell BK259.out 0).trans rfl, (blk_cell BK259.out 1).trans rfl⟩ (fun hHeld => ?_)
       clear hK K
       refine norm_ (a' := ?_) ?_ ?_
       rotate_left
       ·
        show Act.put _ (some 6) _ = _
        simp only [pk, i64_w, i32_w]
        rfl
       exact norm_ (by simp only [putAll, Act.put, List.setIfInBounds_toArray, List.set_cons_zero, List.set_cons_succ]) (hCont (.slice Ao21 t261.length co21, .slice Ao22 t264.length co22, .slice Ao23 t267.length co23, v275, v278, v281, gb286) _ ⟨hHeld, (by (with_reducible repeat (first | apply Kd.R_alloc | apply Kd.R_drewN | apply Kd.R_drew)); exact Kd.R_mono HO263.out (fun _ hk => hk.2)), (by (with_reducible repeat (first | apply Kd.R_alloc | apply Kd.R_drewN | apply Kd.R_drew)); exact Kd.R_mono HO266.out (fun _ hk => ⟨hk.1.1, ⟨hk.1.2, hk.2⟩⟩)), (by (with_reducible repeat (first | apply Kd.R_alloc | apply Kd.R_drewN | apply Kd.R_drew)); exact Kd.R_mono HO269.out (fun _ hk => ⟨hk.1.1, ⟨hk.1.2, hk.2⟩⟩)), (by (with_reducible repeat (first | apply Kd.R_alloc | apply Kd.R_drewN | apply Kd.R_drew)); exact Kd.R_mono HO276.out (fun _ hk => hk.2)), (by (with_reducible repeat (first | apply Kd.R_alloc | apply Kd.R_drewN | apply Kd.R_drew)); exact Kd.R_mono HO279.out (fun _ hk => ⟨hk.1.2, ⟨hk.2, hk.1.1⟩⟩)), (by (with_reducible repeat (first | apply Kd.R_alloc | apply Kd.R_drewN | apply Kd.R_drew)); exact Kd.R_mono HO282.out (fun _ hk => ⟨hk.1.2, ⟨hk.2, hk.1.1⟩⟩)), (bx BK258.out), (bx BK259.out), (bx BK286.out), GW286.out, GE286.out, NB258_286.out, NB286_258.out, NB259_286.out, NB286_259.out, (be w)⟩)
      ·
       skip
       refine box_step ?hg (N := 6) ?hd (cs := #[.slice none 0 0, .slice none 0 0, .slice none 0 0, .int .i64 0, .int .i64 0]) (t := 34) ?hr ?_; (case hd => rfl); (case hg => rfl); (case hr => first | (go_simp; done) | (go_simp; rfl))
       intro gb286 hg w21 hbox hb
       replace HO263 := As.mk (Kd.R_below (by (with_reducible repeat (first | apply Kd.R_alloc | apply Kd.R_drewN | apply Kd.R_drew)); exact HO263.out) hb)
       replace HO266 := As.mk (Kd.R_below (by (with_reducible repeat (first | apply Kd.R_alloc | apply Kd.R_drewN | apply Kd.R_drew)); exact HO266.out) hb)
       replace HO269 := As.mk (Kd.R_below (by (with_reducible repeat (first | apply Kd.R_alloc | apply Kd.R_drewN | apply Kd.R_drew)); exact HO269.out) hb)
       have BK286 := As.mk (hbox)
       have GW286 := As.mk (gs w hg)
       have GE286 := As.mk (gs w hg)
       replace HB := As.mk (below_step (be w) hb)
       have NB258_286 := As.mk (nl hg (bx BK258.out))
       have NB286_258 := As.mk (ng hg (bx BK258.out))
       replace BK258 := As.mk (blk_below (bx BK258.out) hb)
       have NB259_286 := As.mk (nl hg (bx BK259.out))
       have NB286_259 := As.mk (ng hg (bx BK259.out))
       replace BK259 := As.mk (blk_below (bx BK259.out) hb)
       clear hb hbox hg
       obtain ⟨Ao22, co22, eo22⟩ := Kd.R_slice HO263.out
       (first | subst eo22 | (injection eo22 with f1_ f2_ f3_; have f4_ := f1_.symm; have f5_ := f3_.symm; clear f1_ f2_ f3_; subst f4_; subst f5_))
       obtain ⟨Ao23, co23, eo23⟩ := Kd.R_slice HO266.out
       (first | subst eo23 | (injection eo23 with f1_ f2_ f3_; have f4_ := f1_.symm; have f5_ := f3_.symm; clear f1_ f2_ f3_; subst f4_; subst f5_))
       obtain ⟨Ao24, co24, eo24⟩ := Kd.R_slice HO269.out
       (first | subst eo24 | (injection eo24 with f1_ f2_ f3_; have f4_ := f1_.symm; have f5_ := f3_.symm; clear f1_ f2_ f3_; subst f4_; subst f5_))
       refine hK.out _ _ ⟨(blk_cell BK258.out 0).trans rfl, (blk_cell BK258.out 1).trans rfl, (blk_cell BK258.out 2).trans rfl, (blk_cell BK258.out 3).trans rfl, (blk_cell BK258.out 4).trans rfl, (blk_cell BK259.out 0).trans rfl, (blk_cell BK259.out 1).trans rfl⟩ (fun hHeld => ?_)
       clear hK K
       refine norm_ (a' := ?_) ?_ ?_
       rotate_left
       ·
        show Act.put _ (some 6) _ = _
        simp only [pk, i64_w, i32_w]
        rfl
       refine one_ (i := 4) (N := some 26) #[I, I, I, I, I, O, O, O, I, O, O] rfl rfl (one_of HT_.out (by kernel_rfl)) (by decide) (fun K hK => ?_)
       refine goes_ Try.func33 (by kernel_rfl) rfl #[.agg #[.slice Ao22 t261.length co22, .slice Ao23 t264.length co23, .slice Ao24 t267.length co24, .int .i64 t270, .int .i64 t271], .agg #[.int .i64 t272, .int .i64 t273]] (by rfl) rfl rfl (by (try simp only [lm]); first | done | rfl | (simp only [List.length_drop, List.length_take]; rfl)) ?_
       with_reducible refine (spec_Looked.calls _ _ t261 _ _ t264 _ _ t267 t270 t271 t272 t273 t274 t277 t280 t283 t284 t285 _ ?side1 ?side2 ?side3 ?side4 ?side5 ?side6 A13.out).mono ?_
       (case side1 => repeat (first | exact (Kd.R_reads' HO263.out).2.2 | (with_reducible refine Kd.C_alloc ?_ _) | (with_reducible refine Kd.C_drewN ?_ _) | (with_reducible refine Kd.C_drew ?_)))
       (case side2 => exact (Kd.R_reads' HO263.out).2.1)
       (case side3 => repeat (first | exact (Kd.R_reads' HO266.out).2.2 | (with_reducible refine Kd.C_alloc ?_ _) | (with_reducible refine Kd.C_drewN ?_ _) | (with_reducible refine Kd.C_drew ?_)))
       (case side4 => exact (Kd.R_reads' HO266.out).2.1)
       (case side5 => repeat (first | exact (Kd.R_reads' HO269.out).2.2 | (with_reducible refine Kd.C_alloc ?_ _) | (with_reducible refine Kd.C_drewN ?_ _) | (with_reducible refine Kd.C_drew ?_)))
       (case side6 => exact (Kd.R_reads' HO269.out).2.1)
       rintro e w25 ⟨v275, v278, v281, rfl, ho0, ho1, ho2, hb⟩
       refine ⟨_, rfl, ?_⟩
       have HO276 := As.mk (Kd.R_lower (Kd.R_new' ho0 (Kd.R_lt (by (with_reducible repeat (first | apply Kd.R_alloc | apply Kd.R_drewN | apply Kd.R_drew)); exact HO263.out))) (below_size (be w)))
       replace HO263 := As.mk (Kd.R_elder' (by (with_reducible repeat (first | apply Kd.R_alloc | apply Kd.R_drewN | apply Kd.R_drew)); exact HO263.out) (Kd.R_base ho0) hb)
       have HO279 := As.mk (Kd.R_lower (Kd.R_new' (Kd.R_new' ho1 (Kd.R_lt (by (with_reducible repeat (first | apply Kd.R_alloc | apply Kd.R_drewN | apply Kd.R_drew)); exact HO266.out))) (Kd.R_lt (by (with_reducible repeat (first | apply Kd.R_alloc | apply Kd.R_drewN | apply Kd.R_drew)); exact HO269.out))) (below_size (be w)))
       have HO282 := As.mk (Kd.R_lower (Kd.R_new' (Kd.R_new' ho2 (Kd.R_lt (by (with_reducible repeat (first | apply Kd.R_alloc | apply Kd.R_drewN | apply Kd.R_drew)); exact HO266.out))) (Kd.R_lt (by (with_reducible repeat (first | apply Kd.R_alloc | apply Kd.R_drewN | apply Kd.R_drew)); exact HO269.out))) (below_size (be w)))
       replace HO266 := As.mk (Kd.R_mono (Kd.R_told (Kd.R_told (Kd.R_old (by (with_reducible repeat (first | apply Kd.R_alloc | apply Kd.R_drewN | apply Kd.R_drew)); exact HO266.out) hb) (Kd.R_base ho1)) (Kd.R_base ho2)) (fun _ h_ => h_.1))
       replace HO269 := As.mk (Kd.R_mono (Kd.R_told (Kd.R_told (Kd.R_old (by (with_reducible repeat (first | apply Kd.R_alloc | apply Kd.R_drewN | apply Kd.R_drew)); exact HO269.out) hb) (Kd.R_base ho1)) (Kd.R_base ho2)) (fun _ h_ => h_.1))
       replace BK258 := As.mk (blk_below (bx BK258.out) hb)
       replace BK259 := As.mk (blk_below (bx BK259.out) hb)
       replace BK286 := As.mk (blk_below (bx BK286.out) hb)
       replace HB := As.mk (below_step (be w) hb)
       (try clear hb)
       (try clear hb2)
       (try clear hk)
       (try clear hi)
       (try clear ho0)
       (try clear ho1)
       (try clear ho2)
       refine hK.out _ _ ⟨(blk_cell BK258.out 0).trans rfl, (blk_cell BK258.out 1).trans rfl, (blk_cell BK258.out 2).trans rfl, (blk_cell BK258.out 3).trans rfl, (blk_cell BK258.out 4).trans rfl, (blk_cell BK259.out 0).trans rfl, (blk_cell BK259.out 1).trans rfl⟩ (fun hHeld => ?_)
       clear hK K
       refine norm_ (a' := ?_) ?_ ?_
       rotate_left
       ·
        show Act.put _ (some 26) _ = _
        simp only [pk, i64_w, i32_w]
        rfl
       refine pure_ (i := 5) (N := some 21) (v := ?_) (a' := ?_) #[I, I, I, I, I, I, O, O, I, O, O] rfl rfl (any_of HT_.out (by kernel_rfl)) (fun _ _ _ h => h) (Or.inl ⟨by rfl, ?_⟩) ?_ ?_
       rotate_left
       ·
        intro w'
        go_simp
        with_reducible rfl
       rotate_left
       ·
        simp only [pk, i64_w, i32_w]
        rfl
       refine pure_ (i := 6) (N := some 27) (v := ?_) (a' := ?_) #[I, I, I, I, I, I, I, O, I, O, O] rfl rfl (any_of HT_.out (by kernel_rfl)) (fun _ _ _ h => h) (Or.inl ⟨by rfl, ?_⟩) ?_ ?_
       rotate_left
       ·
        intro w'
        go_simp
        with_reducible rfl
       rotate_left
       ·
        simp only [pk, i64_w, i32_w]
        rfl
       refine pure_ (i := 7) (N := some 28) (v := ?_) (a' := ?_) #[I, I, I, I, I, I, I, I, I, O, O] rfl rfl (any_of HT_.out (by kernel_rfl)) (fun _ _ _ h => h) (Or.inl ⟨by rfl, ?_⟩) ?_ ?_
       rotate_left
       ·
        intro w'
        go_simp
        with_reducible rfl
       rotate_left
       ·
        simp only [pk, i64_w, i32_w]
        rfl
       exact norm_ (by simp only [putAll, Act.put, List.setIfInBounds_toArray, List.set_cons_zero, List.set_cons_succ]) (hCont (.slice Ao22 t261.length co22, .slice Ao23 t264.length co23, .slice Ao24 t267.length co24, v275, v278, v281, gb286) _ ⟨hHeld, (by (with_reducible repeat (first | apply Kd.R_alloc | apply Kd.R_drewN | apply Kd.R_drew)); exact Kd.R_mono HO263.out (fun _ hk => hk.2)), (by (with_reducible repeat (first | apply Kd.R_alloc | apply Kd.R_drewN | apply Kd.R_drew)); exact Kd.R_mono HO266.out (fun _ hk => ⟨hk.1.1, ⟨hk.1.2, hk.2⟩⟩)), (by (with_reducible repeat (first | apply Kd.R_alloc | apply Kd.R_drewN | apply Kd.R_drew)); exact Kd.R_mono HO269.out (fun _ hk => ⟨hk.1.1, ⟨hk.1.2, hk.2⟩⟩)), (by (with_reducible repeat (first | apply Kd.R_alloc | apply Kd.R_drewN | apply Kd.R_drew)); exact Kd.R_mono HO276.out (fun _ hk => hk.2)), (by (with_reducible repeat (first | apply Kd.R_alloc | apply Kd.R_drewN | apply Kd.R_drew)); exact Kd.R_mono HO279.out (fun _ hk => ⟨hk.1.2, ⟨hk.2, hk.1.1⟩⟩)), (by (with_reducible repeat (first | apply Kd.R_alloc | apply Kd.R_drewN | apply Kd.R_drew)); exact Kd.R_mono HO282.out (fun _ hk => ⟨hk.1.2, ⟨hk.2, hk.1.1⟩⟩)), (bx BK258.out), (bx BK259.out), (bx BK286.out), GW286.out, GE286.out, NB258_286.out, NB286_258.out, NB259_286.out, NB286_259.out, (be w)⟩)
     ·
      skip
      refine box_step ?hg (N := 6) ?hd (cs := #[.slice none 0 0, .slice none 0 0, .slice none 0 0, .int .i64 0, .int .i64 0]) (t := 34) ?hr ?_; (case hd => rfl); (case hg => rfl); (case hr => first | (go_simp; done) | (go_simp; rfl))
      intro gb286 hg w20 hbox hb
      replace HO263 := As.mk (Kd.R_below (by (with_reducible repeat (first | apply Kd.R_alloc | apply Kd.R_drewN | apply Kd.R_drew)); exact HO263.out) hb)
      replace HO266 := As.mk (Kd.R_below (by (with_reducible repeat (first | apply Kd.R_alloc | apply Kd.R_drewN | apply Kd.R_drew)); exact HO266.out) hb)
      replace HO269 := As.mk (Kd.R_below (by (with_reducible repeat (first | apply Kd.R_alloc | apply Kd.R_drewN | apply Kd.R_drew)); exact HO269.out) hb)
      have BK286 := As.mk (hbox)
      have GW286 := As.mk (gs w hg)
      have GE286 := As.mk (gs w hg)
      replace HB := As.mk (below_step (be w) hb)
      have NB258_286 := As.mk (nl hg (bx BK258.out))
      have NB286_258 := As.mk (ng hg (bx BK258.out))
      replace BK258 := As.mk (blk_below (bx BK258.out) hb)
      have NB259_286 := As.mk (nl hg (bx BK259.out))
      have NB286_259 := As.mk (ng hg (bx BK259.out))
      replace BK259 := As.mk (blk_below (bx BK259.out) hb)
      clear hb hbox hg
      refine hK.out _ _ ⟨(blk_cell BK258.out 0).trans rfl, (blk_cell BK258.out 1).trans rfl, (blk_cell BK258.out 2).trans rfl, (blk_cell BK258.out 3).trans rfl, (blk_cell BK258.out 4).trans rfl, (blk_cell BK259.out 0).trans rfl, (blk_cell BK259.out 1).trans rfl⟩ (fun hHeld => ?_)
      clear hK K
      refine norm_ (a' := ?_) ?_ ?_
      rotate_left
      ·
       show Act.put _ (some 6) _ = _
       simp only [pk, i64_w, i32_w]
       rfl
      refine one_ (i := 3) (N := some 25) #[I, I, I, I, O, O, O, O, I, O, O] rfl rfl (one_of HT_.out (by kernel_rfl)) (by decide) (fun K hK => ?_)
      refine goes_ Try.func26 (by kernel_rfl) rfl #[.agg #[.int .i64 a1_0, .int .i64 a1_1]] (by rfl) rfl rfl (by (try simp only [lm]); first | done | rfl | (simp only [List.length_drop, List.length_take]; rfl)) ?_
      with_reducible refine (laws_toValue.calls a1_0 a1_1 t272 t273 _ A12.out).mono ?_
      rintro e w21 ⟨rfl, hb⟩
      refine ⟨_, rfl, ?_⟩
      replace HO263 := As.mk (Kd.R_below (by (with_reducible repeat (first | apply Kd.R_alloc | apply Kd.R_drewN | apply Kd.R_drew)); exact HO263.out) hb)
      replace HO266 := As.mk (Kd.R_below (by (with_reducible repeat (first | apply Kd.R_alloc | apply Kd.R_drewN | apply Kd.R_drew)); exact HO266.out) hb)
      replace HO269 := As.mk (Kd.R_below (by (with_reducible repeat (first | apply Kd.R_alloc | apply Kd.R_drewN | apply Kd.R_drew)); exact HO269.out) hb)
      replace BK258 := As.mk (blk_below (bx BK258.out) hb)
      replace BK259 := As.mk (blk_below (bx BK259.out) hb)
      replace BK286 := As.mk (blk_below (bx BK286.out) hb)
      replace HB := As.mk (below_step (be w) hb)
      (try clear hb)
      (try clear hb2)
      (try clear hk)
      (try clear hi)
      obtain ⟨Ao22, co22, eo22⟩ := Kd.R_slice HO263.out
      (first | subst eo22 | (injection eo22 with f1_ f2_ f3_; have f4_ := f1_.symm; have f5_ := f3_.symm; clear f1_ f2_ f3_; subst f4_; subst f5_))
      obtain ⟨Ao23, co23, eo23⟩ := Kd.R_slice HO266.out
      (first | subst eo23 | (injection eo23 with f1_ f2_ f3_; have f4_ := f1_.symm; have f5_ := f3_.symm; clear f1_ f2_ f3_; subst f4_; subst f5_))
      obtain ⟨Ao24, co24, eo24⟩ := Kd.R_slice HO269.out
      (first | subst eo24 | (injection eo24 with f1_ f2_ f3_; have f4_ := f1_.symm; have f5_ := f3_.symm; clear f1_ f2_ f3_; subst f4_; subst f5_))
      refine hK.out _ _ ⟨(blk_cell BK258.out 0).trans rfl, (blk_cell BK258.out 1).trans rfl, (blk_cell BK258.out 2).trans rfl, (blk_cell BK258.out 3).trans rfl, (blk_cell BK258.out 4).trans rfl, (blk_cell BK259.out 0).trans rfl, (blk_cell BK259.out 1).trans rfl⟩ (fun hHeld => ?_)
      clear hK K
      refine norm_ (a' := ?_) ?_ ?_
      rotate_left
      ·
       show Act.put _ (some 25) _ = _
       simp only [pk, i64_w, i32_w]
       rfl
      refine one_ (i := 4) (N := some 26) #[I, I, I, I, I, O, O, O, I, O, O] rfl rfl (one_of HT_.out (by kernel_rfl)) (by decide) (fun K hK => ?_)
      refine goes_ Try.func33 (by kernel_rfl) rfl #[.agg #[.slice Ao22 t261.length co22, .slice Ao23 t264.length co23, .slice Ao24 t267.length co24, .int .i64 t270, .int .i64 t271], .agg #[.int .i64 t272, .int .i64 t273]] (by rfl) rfl rfl (by (try simp only [lm]); first | done | rfl | (simp only [List.length_drop, List.length_take]; rfl)) ?_
      with_reducible refine (spec_Looked.calls _ _ t261 _ _ t264 _ _ t267 t270 t271 t272 t273 t274 t277 t280 t283 t284 t285 _ ?side1 ?side2 ?side3 ?side4 ?side5 ?side6 A13.out).mono ?_
      (case side1 => repeat (first | exact (Kd.R_reads' HO263.out).2.2 | (with_reducible refine Kd.C_alloc ?_ _) | (with_reducible refine Kd.C_drewN ?_ _) | (with_reducible refine Kd.C_drew ?_)))
      (case side2 => exact (Kd.R_reads' HO263.out).2.1)
      (case side3 => repeat (first | exact (Kd.R_reads' HO266.out).2.2 | (with_reducible refine Kd.C_alloc ?_ _) | (with_reducible refine Kd.C_drewN ?_ _) | (with_reducible refine Kd.C_drew ?_)))
      (case side4 => exact (Kd.R_reads' HO266.out).2.1)
      (case side5 => repeat (first | exact (Kd.R_reads' HO269.out).2.2 | (with_reducible refine Kd.C_alloc ?_ _) | (with_reducible refine Kd.C_drewN ?_ _) | (with_reducible refine Kd.C_drew ?_)))
      (case side6 => exact (Kd.R_reads' HO269.out).2.1)
      rintro e w25 ⟨v275, v278, v281, rfl, ho0, ho1, ho2, hb⟩
      refine ⟨_, rfl, ?_⟩
      have HO276 := As.mk (Kd.R_lower (Kd.R_new' ho0 (Kd.R_lt (by (with_reducible repeat (first | apply Kd.R_alloc | apply Kd.R_drewN | apply Kd.R_drew)); exact HO263.out))) (below_size (be w)))
      replace HO263 := As.mk (Kd.R_elder' (by (with_reducible repeat (first | apply Kd.R_alloc | apply Kd.R_drewN | apply Kd.R_drew)); exact HO263.out) (Kd.R_base ho0) hb)
      have HO279 := As.mk (Kd.R_lower (Kd.R_new' (Kd.R_new' ho1 (Kd.R_lt (by (with_reducible repeat (first | apply Kd.R_alloc | apply Kd.R_drewN | apply Kd.R_drew)); exact HO266.out))) (Kd.R_lt (by (with_reducible repeat (first | apply Kd.R_alloc | apply Kd.R_drewN | apply Kd.R_drew)); exact HO269.out))) (below_size (be w)))
      have HO282 := As.mk (Kd.R_lower (Kd.R_new' (Kd.R_new' ho2 (Kd.R_lt (by (with_reducible repeat (first | apply Kd.R_alloc | apply Kd.R_drewN | apply Kd.R_drew)); exact HO266.out))) (Kd.R_lt (by (with_reducible repeat (first | apply Kd.R_alloc | apply Kd.R_drewN | apply Kd.R_drew)); exact HO269.out))) (below_size (be w)))
      replace HO266 := As.mk (Kd.R_mono (Kd.R_told (Kd.R_told (Kd.R_old (by (with_reducible repeat (first | apply Kd.R_alloc | apply Kd.R_drewN | apply Kd.R_drew)); exact HO266.out) hb) (Kd.R_base ho1)) (Kd.R_base ho2)) (fun _ h_ => h_.1))
      replace HO269 := As.mk (Kd.R_mono (Kd.R_told (Kd.R_told (Kd.R_old (by (with_reducible repeat (first | apply Kd.R_alloc | apply Kd.R_drewN | apply Kd.R_drew)); exact HO269.out) hb) (Kd.R_base ho1)) (Kd.R_base ho2)) (fun _ h_ => h_.1))
      replace BK258 := As.mk (blk_below (bx BK258.out) hb)
      replace BK259 := As.mk (blk_below (bx BK259.out) hb)
      replace BK286 := As.mk (blk_below (bx BK286.out) hb)
      replace HB := As.mk (below_step (be w) hb)
      (try clear hb)
      (try clear hb2)
      (try clear hk)
      (try clear hi)
      (try clear ho0)
      (try clear ho1)
      (try clear ho2)
      refine hK.out _ _ ⟨(blk_cell BK258.out 0).trans rfl, (blk_cell BK258.out 1).trans rfl, (blk_cell BK258.out 2).trans rfl, (blk_cell BK258.out 3).trans rfl, (blk_cell BK258.out 4).trans rfl, (blk_cell BK259.out 0).trans rfl, (blk_cell BK259.out 1).trans rfl⟩ (fun hHeld => ?_)
      clear hK K
      refine norm_ (a' := ?_) ?_ ?_
      rotate_left
      ·
       show Act.put _ (some 26) _ = _
       simp only [pk, i64_w, i32_w]
       rfl
      refine pure_ (i := 5) (N := some 21) (v := ?_) (a' := ?_) #[I, I, I, I, I, I, O, O, I, O, O] rfl rfl (any_of HT_.out (by kernel_rfl)) (fun _ _ _ h => h) (Or.inl ⟨by rfl, ?_⟩) ?_ ?_
      rotate_left
      ·
       intro w'
       go_simp
       with_reducible rfl
      rotate_left
      ·
       simp only [pk, i64_w, i32_w]
       rfl
      refine pure_ (i := 6) (N := some 27) (v := ?_) (a' := ?_) #[I, I, I, I, I, I, I, O, I, O, O] rfl rfl (any_of HT_.out (by kernel_rfl)) (fun _ _ _ h => h) (Or.inl ⟨by rfl, ?_⟩) ?_ ?_
      rotate_left
      ·
       intro w'
       go_simp
       with_reducible rfl
      rotate_left
      ·
       simp only [pk, i64_w, i32_w]
       rfl
      refine pure_ (i := 7) (N := some 28) (v := ?_) (a' := ?_) #[I, I, I, I, I, I, I, I, I, O, O] rfl rfl (any_of HT_.out (by kernel_rfl)) (fun _ _ _ h => h) (Or.inl ⟨by rfl, ?_⟩) ?_ ?_
      rotate_left
      ·
       intro w'
       go_simp
       with_reducible rfl
      rotate_left
      ·
       simp only [pk, i64_w, i32_w]
       rfl
      exact norm_ (by simp only [putAll, Act.put, List.setIfInBounds_toArray, List.set_cons_zero, List.set_cons_succ]) (hCont (.slice Ao22 t261.length co22, .slice Ao23 t264.length co23, .slice Ao24 t267.length co24, v275, v278, v281, gb286) _ ⟨hHeld, (by (with_reducible repeat (first | apply Kd.R_alloc | apply Kd.R_drewN | apply Kd.R_drew)); exact Kd.R_mono HO263.out (fun _ hk => hk.2)), (by (with_reducible repeat (first | apply Kd.R_alloc | apply Kd.R_drewN | apply Kd.R_drew)); exact Kd.R_mono HO266.out (fun _ hk => ⟨hk.1.1, ⟨hk.1.2, hk.2⟩⟩)), (by (with_reducible repeat (first | apply Kd.R_alloc | apply Kd.R_drewN | apply Kd.R_drew)); exact Kd.R_mono HO269.out (fun _ hk => ⟨hk.1.1, ⟨hk.1.2, hk.2⟩⟩)), (by (with_reducible repeat (first | apply Kd.R_alloc | apply Kd.R_drewN | apply Kd.R_drew)); exact Kd.R_mono HO276.out (fun _ hk => hk.2)), (by (with_reducible repeat (first | apply Kd.R_alloc | apply Kd.R_drewN | apply Kd.R_drew)); exact Kd.R_mono HO279.out (fun _ hk => ⟨hk.1.2, ⟨hk.2, hk.1.1⟩⟩)), (by (with_reducible repeat (first | apply Kd.R_alloc | apply Kd.R_drewN | apply Kd.R_drew)); exact Kd.R_mono HO282.out (fun _ hk => ⟨hk.1.2, ⟨hk.2, hk.1.1⟩⟩)), (bx BK258.out), (bx BK259.out), (bx BK286.out), GW286.out, GE286.out, NB258_286.out, NB286_258.out, NB259_286.out, NB286_259.out, (be w)⟩)
    ·
     skip
     refine box_step ?hg (N := 6) ?hd (cs := #[.slice none 0 0, .slice none 0 0, .slice none 0 0, .int .i64 0, .int .i64 0]) (t := 34) ?hr ?_; (case hd => rfl); (case hg => rfl); (case hr => first | (go_simp; done) | (go_simp; rfl))
     intro gb286 hg w19 hbox hb
     have BK286 := As.mk (hbox)
     have GW286 := As.mk (gs w hg)
     have GE286 := As.mk (gs w hg)
     replace HB := As.mk (below_step (be w) hb)
     have NB258_286 := As.mk (nl hg (bx BK258.out))
     have NB286_258 := As.mk (ng hg (bx BK258.out))
     replace BK258 := As.mk (blk_below (bx BK258.out) hb)
     have NB259_286 := As.mk (nl hg (bx BK259.out))
     have NB286_259 := As.mk (ng hg (bx BK259.out))
     replace BK259 := As.mk (blk_below (bx BK259.out) hb)
     clear hb hbox hg
     refine hK.out _ _ ⟨(blk_cell BK258.out 0).trans rfl, (blk_cell BK258.out 1).trans rfl, (blk_cell BK258.out 2).trans rfl, (blk_cell BK258.out 3).trans rfl, (blk_cell BK258.out 4).trans rfl, (blk_cell BK259.out 0).trans rfl, (blk_cell BK259.out 1).trans rfl⟩ (fun hHeld => ?_)
     clear hK K
     refine norm_ (a' := ?_) ?_ ?_
     rotate_left
     ·
      show Act.put _ (some 6) _ = _
      simp only [pk, i64_w, i32_w]
      rfl
     refine one_ (i := 1) (N := some 23) #[I, I, I, O, O, O, O, O, I, O, O] rfl rfl (one_of HT_.out (by kernel_rfl)) (by decide) (fun K hK => ?_)
     refine goes_ Try.func25 (by kernel_rfl) rfl #[.agg #[.slice A0_0 l0_0.length c0_0, .slice A0_1 l0_1.length c0_1, .slice A0_2 l0_2.length c0_2, .int .i64 a0_3, .int .i64 a0_4]] (by rfl) rfl rfl (by (try simp only [lm]); first | done | rfl | (simp only [List.length_drop, List.length_take]; rfl)) ?_
     with_reducible refine (laws_toMemory.calls kj3 _ _ l0_0 _ _ l0_1 _ _ l0_2 a0_3 a0_4 t261 t264 t267 t270 t271 _ ?side1 ?side2 ?side3 ?side4 ?side5 ?side6 A11.out).mono ?_
     (case side1 => exact Kd.C_below HR0_0.out (be w))
     (case side2 => exact HC0_0.out)
     (case side3 => exact Kd.C_below HR0_1.out (be w))
     (case side4 => exact HC0_1.out)
     (case side5 => exact Kd.C_below HR0_2.out (be w))
     (case side6 => exact HC0_2.out)
     rintro e w20 ⟨v262, v265, v268, rfl, ho0, ho1, ho2, hb⟩
     refine ⟨_, rfl, ?_⟩
     have HO263 := As.mk (Kd.R_lower ho0 (below_size (be w)))
     have HO266 := As.mk (Kd.R_lower ho1 (below_size (be w)))
     have HO269 := As.mk (Kd.R_lower ho2 (below_size (be w)))
     replace BK258 := As.mk (blk_below (bx BK258.out) hb)
     replace BK259 := As.mk (blk_below (bx BK259.out) hb)
     replace BK286 := As.mk (blk_below (bx BK286.out) hb)
     replace HB := As.mk (below_step (be w) hb)
     (try clear hb)
     (try clear hb2)
     (try clear hk)
     (try clear hi)
     (try clear ho0)
     (try clear ho1)
     (try clear ho2)
     refine hK.out _ _ ⟨(blk_cell BK258.out 0).trans rfl, (blk_cell BK258.out 1).trans rfl, (blk_cell BK258.out 2).trans rfl, (blk_cell BK258.out 3).trans rfl, (blk_cell BK258.out 4).trans rfl, (blk_cell BK259.out 0).trans rfl, (blk_cell BK259.out 1).trans rfl⟩ (fun hHeld => ?_)
     clear hK K
     refine norm_ (a' := ?_) ?_ ?_
     rotate_left
     ·
      show Act.put _ (some 23) _ = _
      simp only [pk, i64_w, i32_w]
      rfl
     refine one_ (i := 3) (N := some 25) #[I, I, I, I, O, O, O, O, I, O, O] rfl rfl (one_of HT_.out (by kernel_rfl)) (by decide) (fun K hK => ?_)
     refine goes_ Try.func26 (by kernel_rfl) rfl #[.agg #[.int .i64 a1_0, .int .i64 a1_1]] (by rfl) rfl rfl (by (try simp only [lm]); first | done | rfl | (simp only [List.length_drop, List.length_take]; rfl)) ?_
     with_reducible refine (laws_toValue.calls a1_0 a1_1 t272 t273 _ A12.out).mono ?_
     rintro e w21 ⟨rfl, hb⟩
     refine ⟨_, rfl, ?_⟩
     replace HO263 := As.mk (Kd.R_below (by (with_reducible repeat (first | apply Kd.R_alloc | apply Kd.R_drewN | apply Kd.R_drew)); exact HO263.out) hb)
     replace HO266 := As.mk (Kd.R_below (by (with_reducible repeat (first | apply Kd.R_alloc | apply Kd.R_drewN | apply Kd.R_drew)); exact HO266.out) hb)
     replace HO269 := As.mk (Kd.R_below (by (with_reducible repeat (first | apply Kd.R_alloc | apply Kd.R_drewN | apply Kd.R_drew)); exact HO269.out) hb)
     replace BK258 := As.mk (blk_below (bx BK258.out) hb)
     replace BK259 := As.mk (blk_below (bx BK259.out) hb)
     replace BK286 := As.mk (blk_below (bx BK286.out) hb)
     replace HB := As.mk (below_step (be w) hb)
     (try clear hb)
     (try clear hb2)
     (try clear hk)
     (try clear hi)
     obtain ⟨Ao22, co22, eo22⟩ := Kd.R_slice HO263.out
     (first | subst eo22 | (injection eo22 with f1_ f2_ f3_; have f4_ := f1_.symm; have f5_ := f3_.symm; clear f1_ f2_ f3_; subst f4_; subst f5_))
     obtain ⟨Ao23, co23, eo23⟩ := Kd.R_slice HO266.out
     (first | subst eo23 | (injection eo23 with f1_ f2_ f3_; have f4_ := f1_.symm; have f5_ := f3_.symm; clear f1_ f2_ f3_; subst f4_; subst f5_))
     obtain ⟨Ao24, co24, eo24⟩ := Kd.R_slice HO269.out
     (first | subst eo24 | (injection eo24 with f1_ f2_ f3_; have f4_ := f1_.symm; have f5_ := f3_.symm; clear f1_ f2_ f3_; subst f4_; subst f5_))
     refine hK.out _ _ ⟨(blk_cell BK258.out 0).trans rfl, (blk_cell BK258.out 1).trans rfl, (blk_cell BK258.out 2).trans rfl, (blk_cell BK258.out 3).trans rfl, (blk_cell BK258.out 4).trans rfl, (blk_cell BK259.out 0).trans rfl, (blk_cell BK259.out 1).trans rfl⟩ (fun hHeld => ?_)
     clear hK K
     refine norm_ (a' := ?_) ?_ ?_
     rotate_left
     ·
      show Act.put _ (some 25) _ = _
      simp only [pk, i64_w, i32_w]
      rfl
     refine one_ (i := 4) (N := some 26) #[I, I, I, I, I, O, O, O, I, O, O] rfl rfl (one_of HT_.out (by kernel_rfl)) (by decide) (fun K hK => ?_)
     refine goes_ Try.func33 (by kernel_rfl) rfl #[.agg #[.slice Ao22 t261.length co22, .slice Ao23 t264.length co23, .slice Ao24 t267.length co24, .int .i64 t270, .int .i64 t271], .agg #[.int .i64 t272, .int .i64 t273]] (by rfl) rfl rfl (by (try simp only [lm]); first | done | rfl | (simp only [List.length_drop, List.length_take]; rfl)) ?_
     with_reducible refine (spec_Looked.calls _ _ t261 _ _ t264 _ _ t267 t270 t271 t272 t273 t274 t277 t280 t283 t284 t285 _ ?side1 ?side2 ?side3 ?side4 ?side5 ?side6 A13.out).mono ?_
     (case side1 => repeat (first | exact (Kd.R_reads' HO263.out).2.2 | (with_reducible refine Kd.C_alloc ?_ _) | (with_reducible refine Kd.C_drewN ?_ _) | (with_reducible refine Kd.C_drew ?_)))
     (case side2 => exact (Kd.R_reads' HO263.out).2.1)
     (case side3 => repeat (first | exact (Kd.R_reads' HO266.out).2.2 | (with_reducible refine Kd.C_alloc ?_ _) | (with_reducible refine Kd.C_drewN ?_ _) | (with_reducible refine Kd.C_drew ?_)))
     (case side4 => exact (Kd.R_reads' HO266.out).2.1)
     (case side5 => repeat (first | exact (Kd.R_reads' HO269.out).2.2 | (with_reducible refine Kd.C_alloc ?_ _) | (with_reducible refine Kd.C_drewN ?_ _) | (with_reducible refine Kd.C_drew ?_)))
     (case side6 => exact (Kd.R_reads' HO269.out).2.1)
     rintro e w25 ⟨v275, v278, v281, rfl, ho0, ho1, ho2, hb⟩
     refine ⟨_, rfl, ?_⟩
     have HO276 := As.mk (Kd.R_lower (Kd.R_new' ho0 (Kd.R_lt (by (with_reducible repeat (first | apply Kd.R_alloc | apply Kd.R_drewN | apply Kd.R_drew)); exact HO263.out))) (below_size (be w)))
     replace HO263 := As.mk (Kd.R_elder' (by (with_reducible repeat (first | apply Kd.R_alloc | apply Kd.R_drewN | apply Kd.R_drew)); exact HO263.out) (Kd.R_base ho0) hb)
     have HO279 := As.mk (Kd.R_lower (Kd.R_new' (Kd.R_new' ho1 (Kd.R_lt (by (with_reducible repeat (first | apply Kd.R_alloc | apply Kd.R_drewN | apply Kd.R_drew)); exact HO266.out))) (Kd.R_lt (by (with_reducible repeat (first | apply Kd.R_alloc | apply Kd.R_drewN | apply Kd.R_drew)); exact HO269.out))) (below_size (be w)))
     have HO282 := As.mk (Kd.R_lower (Kd.R_new' (Kd.R_new' ho2 (Kd.R_lt (by (with_reducible repeat (first | apply Kd.R_alloc | apply Kd.R_drewN | apply Kd.R_drew)); exact HO266.out))) (Kd.R_lt (by (with_reducible repeat (first | apply Kd.R_alloc | apply Kd.R_drewN | apply Kd.R_drew)); exact HO269.out))) (below_size (be w)))
     replace HO266 := As.mk (Kd.R_mono (Kd.R_told (Kd.R_told (Kd.R_old (by (with_reducible repeat (first | apply Kd.R_alloc | apply Kd.R_drewN | apply Kd.R_drew)); exact HO266.out) hb) (Kd.R_base ho1)) (Kd.R_base ho2)) (fun _ h_ => h_.1))
     replace HO269 := As.mk (Kd.R_mono (Kd.R_told (Kd.R_told (Kd.R_old (by (with_reducible repeat (first | apply Kd.R_alloc | apply Kd.R_drewN | apply Kd.R_drew)); exact HO269.out) hb) (Kd.R_base ho1)) (Kd.R_base ho2)) (fun _ h_ => h_.1))
     replace BK258 := As.mk (blk_below (bx BK258.out) hb)
     replace BK259 := As.mk (blk_below (bx BK259.out) hb)
     replace BK286 := As.mk (blk_below (bx BK286.out) hb)
     replace HB := As.mk (below_step (be w) hb)
     (try clear hb)
     (try clear hb2)
     (try clear hk)
     (try clear hi)
     (try clear ho0)
     (try clear ho1)
     (try clear ho2)
     refine hK.out _ _ ⟨(blk_cell BK258.out 0).trans rfl, (blk_cell BK258.out 1).trans rfl, (blk_cell BK258.out 2).trans rfl, (blk_cell BK258.out 3).trans rfl, (blk_cell BK258.out 4).trans rfl, (blk_cell BK259.out 0).trans rfl, (blk_cell BK259.out 1).trans rfl⟩ (fun hHeld => ?_)
     clear hK K
     refine norm_ (a' := ?_) ?_ ?_
     rotate_left
     ·
      show Act.put _ (some 26) _ = _
      simp only [pk, i64_w, i32_w]
      rfl
     refine pure_ (i := 5) (N := some 21) (v := ?_) (a' := ?_) #[I, I, I, I, I, I, O, O, I, O, O] rfl rfl (any_of HT_.out (by kernel_rfl)) (fun _ _ _ h => h) (Or.inl ⟨by rfl, ?_⟩) ?_ ?_
     rotate_left
     ·
      intro w'
      go_simp
      with_reducible rfl
     rotate_left
     ·
      simp only [pk, i64_w, i32_w]
      rfl
     refine pure_ (i := 6) (N := some 27) (v := ?_) (a' := ?_) #[I, I, I, I, I, I, I, O, I, O, O] rfl rfl (any_of HT_.out (by kernel_rfl)) (fun _ _ _ h => h) (Or.inl ⟨by rfl, ?_⟩) ?_ ?_
     rotate_left
     ·
      intro w'
      go_simp
      with_reducible rfl
     rotate_left
     ·
      simp only [pk, i64_w, i32_w]
      rfl
     refine pure_ (i := 7) (N := some 28) (v := ?_) (a' := ?_) #[I, I, I, I, I, I, I, I, I, O, O] rfl rfl (any_of HT_.out (by kernel_rfl)) (fun _ _ _ h => h) (Or.inl ⟨by rfl, ?_⟩) ?_ ?_
     rotate_left
     ·
      intro w'
      go_simp
      with_reducible rfl
     rotate_left
     ·
      simp only [pk, i64_w, i32_w]
      rfl
     exact norm_ (by simp only [putAll, Act.put, List.setIfInBounds_toArray, List.set_cons_zero, List.set_cons_succ]) (hCont (.slice Ao22 t261.length co22, .slice Ao23 t264.length co23, .slice Ao24 t267.length co24, v275, v278, v281, gb286) _ ⟨hHeld, (by (with_reducible repeat (first | apply Kd.R_alloc | apply Kd.R_drewN | apply Kd.R_drew)); exact Kd.R_mono HO263.out (fun _ hk => hk.2)), (by (with_reducible repeat (first | apply Kd.R_alloc | apply Kd.R_drewN | apply Kd.R_drew)); exact Kd.R_mono HO266.out (fun _ hk => ⟨hk.1.1, ⟨hk.1.2, hk.2⟩⟩)), (by (with_reducible repeat (first | apply Kd.R_alloc | apply Kd.R_drewN | apply Kd.R_drew)); exact Kd.R_mono HO269.out (fun _ hk => ⟨hk.1.1, ⟨hk.1.2, hk.2⟩⟩)), (by (with_reducible repeat (first | apply Kd.R_alloc | apply Kd.R_drewN | apply Kd.R_drew)); exact Kd.R_mono HO276.out (fun _ hk => hk.2)), (by (with_reducible repeat (first | apply Kd.R_alloc | apply Kd.R_drewN | apply Kd.R_drew)); exact Kd.R_mono HO279.out (fun _ hk => ⟨hk.1.2, ⟨hk.2, hk.1.1⟩⟩)), (by (with_reducible repeat (first | apply Kd.R_alloc | apply Kd.R_drewN | apply Kd.R_drew)); exact Kd.R_mono HO282.out (fun _ hk => ⟨hk.1.2, ⟨hk.2, hk.1.1⟩⟩)), (bx BK258.out), (bx BK259.out), (bx BK286.out), GW286.out, GE286.out, NB258_286.out, NB286_258.out, NB259_286.out, NB286_259.out, (be w)⟩)
   rintro ⟨v262, v265, v268, v275, v278, v281, gb286⟩ w26 ⟨hS_, h0_, h1_, h2_, h3_, h4_, h5_, h6_, h7_, h8_, h9_, h10_, h11_, h12_, h13_, h14_, h15_⟩
   have n0_ : As (Kd.R k93 93 w26 w.heap.size (fun k_ => some k_ ≠ (v275 : Value).ownBlock) v262 t261) := ⟨h0_⟩
   have n1_ : As (Kd.R (Kd.int .i64) 3 w26 w.heap.size (fun k_ => some k_ ≠ (v268 : Value).ownBlock ∧ some k_ ≠ (v278 : Value).ownBlock ∧ some k_ ≠ (v281 : Value).ownBlock) v265 t264) := ⟨h1_⟩
   have n2_ : As (Kd.R (Kd.int .i64) 3 w26 w.heap.size (fun k_ => some k_ ≠ (v265 : Value).ownBlock ∧ some k_ ≠ (v278 : Value).ownBlock ∧ some k_ ≠ (v281 : Value).ownBlock) v268 t267) := ⟨h2_⟩
   have n3_ : As (Kd.R k93 93 w26 w.heap.size (fun k_ => some k_ ≠ (v262 : Value).ownBlock) v275 t274) := ⟨h3_⟩
   have n4_ : As (Kd.R (Kd.int .i64) 3 w26 w.heap.size (fun k_ => some k_ ≠ (v265 : Value).ownBlock ∧ some k_ ≠ (v268 : Value).ownBlock ∧ some k_ ≠ (v281 : Value).ownBlock) v278 t277) := ⟨h4_⟩
   have n5_ : As (Kd.R (Kd.int .i64) 3 w26 w.heap.size (fun k_ => some k_ ≠ (v265 : Value).ownBlock ∧ some k_ ≠ (v268 : Value).ownBlock ∧ some k_ ≠ (v278 : Value).ownBlock) v281 t280) := ⟨h5_⟩
   have n6_ : As (w26.heap[gb258]? = some (.cells #[.slice A0_0 l0_0.length c0_0, .slice A0_1 l0_1.length c0_1, .slice A0_2 l0_2.length c0_2, .int .i64 a0_3, .int .i64 a0_4] 47 (0, 0))) := ⟨h6_⟩
   have n7_ : As (w26.heap[gb259]? = some (.cells #[.int .i64 a1_0, .int .i64 a1_1] 48 (0, 0))) := ⟨h7_⟩
   have n8_ : As (w26.heap[gb286]? = some (.cells #[.slice none 0 0, .slice none 0 0, .slice none 0 0, .int .i64 0, .int .i64 0] 34 (0, 0))) := ⟨h8_⟩
   have n9_ : As (w.heap.size ≤ gb286) := ⟨h9_⟩
   have n10_ : As (w.heap.size ≤ gb286) := ⟨h10_⟩
   have n11_ : As (gb258 ≠ gb286) := ⟨h11_⟩
   have n12_ : As (gb286 ≠ gb258) := ⟨h12_⟩
   have n13_ : As (gb259 ≠ gb286) := ⟨h13_⟩
   have n14_ : As (gb286 ≠ gb259) := ⟨h14_⟩
   have n15_ : As (Below w.heap.size w w26) := ⟨h15_⟩
   clear BK258
   clear BK259
   clear HB
   clear h0_ h1_ h2_ h3_ h4_ h5_ h6_ h7_ h8_ h9_ h10_ h11_ h12_ h13_ h14_ h15_
   have HO263 := n0_
   have HO266 := n1_
   have HO269 := n2_
   have HO276 := n3_
   have HO279 := n4_
   have HO282 := n5_
   have BK258 := n6_
   have BK259 := n7_
   have BK286 := n8_
   have GW286 := n9_
   have GE286 := n10_
   have NB258_286 := n11_
   have NB286_258 := n12_
   have NB259_286 := n13_
   have NB286_259 := n14_
   have HB := n15_
   clear n0_ n1_ n2_ n3_ n4_ n5_ n6_ n7_ n8_ n9_ n10_ n11_ n12_ n13_ n14_ n15_
   have hHeld : w26.cell? ⟨gb258, 0, none⟩ = some (.slice A0_0 l0_0.length c0_0) ∧ w26.cell? ⟨gb258, 1, none⟩ = some (.slice A0_1 l0_1.length c0_1) ∧ w26.cell? ⟨gb258, 2, none⟩ = some (.slice A0_2 l0_2.length c0_2) ∧ w26.cell? ⟨gb258, 3, none⟩ = some (.int .i64 a0_3) ∧ w26.cell? ⟨gb258, 4, none⟩ = some (.int .i64 a0_4) ∧ w26.cell? ⟨gb259, 0, none⟩ = some (.int .i64 a1_0) ∧ w26.cell? ⟨gb259, 1, none⟩ = some (.int .i64 a1_1) := hS_
   obtain ⟨Ao27, co27, eo27⟩ := Kd.R_slice HO276.out
   (first | subst eo27 | (injection eo27 with f1_ f2_ f3_; have f4_ := f1_.symm; have f5_ := f3_.symm; clear f1_ f2_ f3_; subst f4_; subst f5_))
   obtain ⟨Ao29, co29, eo29⟩ := Kd.R_slice HO279.out
   (first | subst eo29 | (injection eo29 with f1_ f2_ f3_; have f4_ := f1_.symm; have f5_ := f3_.symm; clear f1_ f2_ f3_; subst f4_; subst f5_))
   obtain ⟨Ao31, co31, eo31⟩ := Kd.R_slice HO282.out
   (first | subst eo31 | (injection eo31 with f1_ f2_ f3_; have f4_ := f1_.symm; have f5_ := f3_.symm; clear f1_ f2_ f3_; subst f4_; subst f5_))
   refine norm_ (a' := ?_) ?_ ?_
   rotate_left
   ·
    simp only [putAll, Act.put, List.setIfInBounds_toArray, List.set_cons_zero, List.set_cons_succ]
    rfl
   refine one_ (i := 9) (N := none) #[I, I, I, I, I, I, I, I, I, I, O] rfl rfl (one_of HT_.out (by kernel_rfl)) (by decide) (fun K hK => ?_)
   have hs28 : w26.cell? ⟨gb286, 0, none⟩ = some (.slice none 0 0) := (blk_cell BK286.out 0).trans rfl
   have hfs28 := blk_frozen BK286.out 0
   have hns28_0 := NB258_286.out
   have hns28_1 := NB259_286.out
   have hms28_0 := NB286_258.out
   have hms28_1 := NB286_259.out
   have hs30 : w26.cell? ⟨gb286, 1, none⟩ = some (.slice none 0 0) := (blk_cell BK286.out 1).trans rfl
   have hfs30 := blk_frozen BK286.out 1
   have hns30_0 := NB258_286.out
   have hns30_1 := NB259_286.out
   have hms30_0 := NB286_258.out
   have hms30_1 := NB286_259.out
   have hs32 : w26.cell? ⟨gb286, 2, none⟩ = some (.slice none 0 0) := (blk_cell BK286.out 2).trans rfl
   have hfs32 := blk_frozen BK286.out 2
   have hns32_0 := NB258_286.out
   have hns32_1 := NB259_286.out
   have hms32_0 := NB286_258.out
   have hms32_1 := NB286_259.out
   have hs33 : w26.cell? ⟨gb286, 3, none⟩ = some (.int .i64 0) := (blk_cell BK286.out 3).trans rfl
   have hfs33 := blk_frozen BK286.out 3
   have hns33_0 := NB258_286.out
   have hns33_1 := NB259_286.out
   have hms33_0 := NB286_258.out
   have hms33_1 := NB286_259.out
   have hs34 : w26.cell? ⟨gb286, 4, none⟩ = some (.int .i64 0) := (blk_cell BK286.out 4).trans rfl
   have hfs34 := blk_frozen BK286.out 4
   have hns34_0 := NB258_286.out
   have hns34_1 := NB259_286.out
   have hms34_0 := NB286_258.out
   have hms34_1 := NB286_259.out
   refine skip_ (w1 := ?_) (by rfl) rfl ?_ ?_
   rotate_left
   ·
    go_simp
    rfl
   refine hK.out _ _ ⟨((cell_far (p := ⟨gb286, _, none⟩) NB258_286.out _).trans (((cell_far (p := ⟨gb286, _, none⟩) NB258_286.out _).trans (((cell_far (p := ⟨gb286, _, none⟩) NB258_286.out _).trans (((cell_far (p := ⟨gb286, _, none⟩) NB258_286.out _).trans (((cell_far (p := ⟨gb286, _, none⟩) NB258_286.out _).trans (hHeld.1)))))))))), ((cell_far (p := ⟨gb286, _, none⟩) NB258_286.out _).trans (((cell_far (p := ⟨gb286, _, none⟩) NB258_286.out _).trans (((cell_far (p := ⟨gb286, _, none⟩) NB258_286.out _).trans (((cell_far (p := ⟨gb286, _, none⟩) NB258_286.out _).trans (((cell_far (p := ⟨gb286, _, none⟩) NB258_286.out _).trans (hHeld.2.1)))))))))), ((cell_far (p := ⟨gb286, _, none⟩) NB258_286.out _).trans (((cell_far (p := ⟨gb286, _, none⟩) NB258_286.out _).trans (((cell_far (p := ⟨gb286, _, none⟩) NB258_286.out _).trans (((cell_far (p := ⟨gb286, _, none⟩) NB258_286.out _).trans (((cell_far (p := ⟨gb286, _, none⟩) NB258_286.out _).trans (hHeld.2.2.1)))))))))), ((cell_far (p := ⟨gb286, _, none⟩) NB258_286.out _).trans (((cell_far (p := ⟨gb286, _, none⟩) NB258_286.out _).trans (((cell_far (p := ⟨gb286, _, none⟩) NB258_286.out _).trans (((cell_far (p := ⟨gb286, _, none⟩) NB258_286.out _).trans (((cell_far (p := ⟨gb286, _, none⟩) NB258_286.out _).trans (hHeld.2.2.2.1)))))))))), ((cell_far (p := ⟨gb286, _, none⟩) NB258_286.out _).trans (((cell_far (p := ⟨gb286, _, none⟩) NB258_286.out _).trans (((cell_far (p := ⟨gb286, _, none⟩) NB258_286.out _).trans (((cell_far (p := ⟨gb286, _, none⟩) NB258_286.out _).trans (((cell_far (p := ⟨gb286, _, none⟩) NB258_286.out _).trans (hHeld.2.2.2.2.1)))))))))), ((cell_far (p := ⟨gb286, _, none⟩) NB259_286.out _).trans (((cell_far (p := ⟨gb286, _, none⟩) NB259_286.out _).trans (((cell_far (p := ⟨gb286, _, none⟩) NB259_286.out _).trans (((cell_far (p := ⟨gb286, _, none⟩) NB259_286.out _).trans (((cell_far (p := ⟨gb286, _, none⟩) NB259_286.out _).trans (hHeld.2.2.2.2.2.1)))))))))), ((cell_far (p := ⟨gb286, _, none⟩) NB259_286.out _).trans (((cell_far (p := ⟨gb286, _, none⟩) NB259_286.out _).trans (((cell_far (p := ⟨gb286, _, none⟩) NB259_286.out _).trans (((cell_far (p := ⟨gb286, _, none⟩) NB259_286.out _).trans (((cell_far (p := ⟨gb286, _, none⟩) NB259_286.out _).trans (hHeld.2.2.2.2.2.2))))))))))⟩ (fun hHeld => ?_)
   clear hK K
   refine pure_ (i := 10) (N := some 7) (v := ?_) (a' := ?_) #[I, I, I, I, I, I, I, I, I, I, I] rfl rfl (any_of HT_.out (by kernel_rfl)) (fun _ _ _ h => h) (Or.inl ⟨by rfl, ?_⟩) ?_ ?_
   rotate_left
   ·
    intro w'
    go_simp
    with_reducible rfl
   rotate_left
   ·
    simp only [pk, i64_w, i32_w]
    rfl
   refine done_ (done_of HT_.out (by kernel_rfl)) ?_
   have hnb35 := NB258_259.out
   have hnc35 := NB259_258.out
   have hnb36 := NB258_286.out
   have hnc36 := NB286_258.out
   obtain ⟨hcz37_0, hcz37_1, hcz37_2, hcz37_3, hcz37_4, hfz37_0, hfz37_1, hfz37_2, hfz37_3, hfz37_4⟩ := cl5 BK258.out
   try go_wp2_with (first | ((with_reducible refine gate_callee (f := 25) rfl ?_); refine goesL_ (some 30) rfl rfl Try.func25 (by kernel_rfl) rfl #[.agg #[.slice A0_0 l0_0.length c0_0, .slice A0_1 l0_1.length c0_1, .slice A0_2 l0_2.length c0_2, .int .i64 a0_3, .int .i64 a0_4]] rfl (by (try simp only [lm]); first | done | rfl | (simp only [List.length_drop, List.length_take]; rfl)) ?_; (with_reducible refine (laws_toMemory.calls kj3 _ _ l0_0 _ _ l0_1 _ _ l0_2 a0_3 a0_4 t287 t290 t293 t296 t297 _ ?side1 ?side2 ?side3 ?side4 ?side5 ?side6 A14.out).mono ?_); (case side1 => exact Kd.C_below HR0_0.out (be w)); (case side2 => exact HC0_0.out); (case side3 => exact Kd.C_below HR0_1.out (be w)); (case side4 => exact HC0_1.out); (case side5 => exact Kd.C_below HR0_2.out (be w)); (case side6 => exact HC0_2.out); rintro e w38 ⟨v288, v291, v294, rfl, ho0, ho1, ho2, hb⟩; refine ⟨_, rfl, ?_⟩; have HO289 := As.mk (Kd.R_lower (Kd.R_new' (Kd.R_new' ho0 (Kd.R_lt (by (with_reducible repeat (first | apply Kd.R_alloc | apply Kd.R_drewN | apply Kd.R_drew)); (have z_ := R_far5 HO263.out BK286.out (by decide)); with_reducible exact z_ _ _ _ _ _))) (Kd.R_lt (by (with_reducible repeat (first | apply Kd.R_alloc | apply Kd.R_drewN | apply Kd.R_drew)); (have z_ := R_far5 HO276.out BK286.out (by decide)); with_reducible exact z_ _ _ _ _ _))) (below_size (be w))); replace HO263 := As.mk (Kd.R_elder' (by (with_reducible repeat (first | apply Kd.R_alloc | apply Kd.R_drewN | apply Kd.R_drew)); (have z_ := R_far5 HO263.out BK286.out (by decide)); with_reducible exact z_ _ _ _ _ _) (Kd.R_base ho0) hb); replace HO276 := As.mk (Kd.R_elder' (by (with_reducible repeat (first | apply Kd.R_alloc | apply Kd.R_drewN | apply Kd.R_drew)); (have z_ := R_far5 HO276.out BK286.out (by decide)); with_reducible exact z_ _ _ _ _ _) (Kd.R_base ho0) hb); have HO292 := As.mk (Kd.R_lower (Kd.R_new' (Kd.R_new' (Kd.R_new' (Kd.R_new' ho1 (Kd.R_lt (by (with_reducible repeat (first | apply Kd.R_alloc | apply Kd.R_drewN | apply Kd.R_drew)); (have z_ := R_far5 HO266.out BK286.out (by decide)); with_reducible exact z_ _ _ _ _ _))) (Kd.R_lt (by (with_reducible repeat (first | apply Kd.R_alloc | apply Kd.R_drewN | apply Kd.R_drew)); (have z_ := R_far5 HO269.out BK286.out (by decide)); with_reducible exact z_ _ _ _ _ _))) (Kd.R_lt (by (with_reducible repeat (first | apply Kd.R_alloc | apply Kd.R_drewN | apply Kd.R_drew)); (have z_ := R_far5 HO279.out BK286.out (by decide)); with_reducible exact z_ _ _ _ _ _))) (Kd.R_lt (by (with_reducible repeat (first | apply Kd.R_alloc | apply Kd.R_drewN | apply Kd.R_drew)); (have z_ := R_far5 HO282.out BK286.out (by decide)); with_reducible exact z_ _ _ _ _ _))) (below_size (be w))); have HO295 := As.mk (Kd.R_lower (Kd.R_new' (Kd.R_new' (Kd.R_new' (Kd.R_new' ho2 (Kd.R_lt (by (with_reducible repeat (first | apply Kd.R_alloc | apply Kd.R_drewN | apply Kd.R_drew)); (have z_ := R_far5 HO266.out BK286.out (by decide)); with_reducible exact z_ _ _ _ _ _))) (Kd.R_lt (by (with_reducible repeat (first | apply Kd.R_alloc | apply Kd.R_drewN | apply Kd.R_drew)); (have z_ := R_far5 HO269.out BK286.out (by decide)); with_reducible exact z_ _ _ _ _ _))) (Kd.R_lt (by (with_reducible repeat (first | apply Kd.R_alloc | apply Kd.R_drewN | apply Kd.R_drew)); (have z_ := R_far5 HO279.out BK286.out (by decide)); with_reducible exact z_ _ _ _ _ _))) (Kd.R_lt (by (with_reducible repeat (first | apply Kd.R_alloc | apply Kd.R_drewN | apply Kd.R_drew)); (have z_ := R_far5 HO282.out BK286.out (by decide)); with_reducible exact z_ _ _ _ _ _))) (below_size (be w))); replace HO266 := As.mk (Kd.R_mono (Kd.R_told (Kd.R_told (Kd.R_old (by (with_reducible repeat (first | apply Kd.R_alloc | apply Kd.R_drewN | apply Kd.R_drew)); (have z_ := R_far5 HO266.out BK286.out (by decide)); with_reducible exact z_ _ _ _ _ _) hb) (Kd.R_base ho1)) (Kd.R_base ho2)) (fun _ h_ => h_.1)); replace HO269 := As.mk (Kd.R_mono (Kd.R_told (Kd.R_told (Kd.R_old (by (with_reducible repeat (first | apply Kd.R_alloc | apply Kd.R_drewN | apply Kd.R_drew)); (have z_ := R_far5 HO269.out BK286.out (by decide)); with_reducible exact z_ _ _ _ _ _) hb) (Kd.R_base ho1)) (Kd.R_base ho2)) (fun _ h_ => h_.1)); replace HO279 := As.mk (Kd.R_mono (Kd.R_told (Kd.R_told (Kd.R_old (by (with_reducible repeat (first | apply Kd.R_alloc | apply Kd.R_drewN | apply Kd.R_drew)); (have z_ := R_far5 HO279.out BK286.out (by decide)); with_reducible exact z_ _ _ _ _ _) hb) (Kd.R_base ho1)) (Kd.R_base ho2)) (fun _ h_ => h_.1)); replace HO282 := As.mk (Kd.R_mono (Kd.R_told (Kd.R_told (Kd.R_old (by (with_reducible repeat (first | apply Kd.R_alloc | apply Kd.R_drewN | apply Kd.R_drew)); (have z_ := R_far5 HO282.out BK286.out (by decide)); with_reducible exact z_ _ _ _ _ _) hb) (Kd.R_base ho1)) (Kd.R_base ho2)) (fun _ h_ => h_.1)); replace BK258 := As.mk (blk_below (g := gb258) (o := .cells #[.slice A0_0 l0_0.length c0_0, .slice A0_1 l0_1.length c0_1, .slice A0_2 l0_2.length c0_2, .int .i64 a0_3, .int .i64 a0_4] 47 (0, 0)) (by refine pl ?_; refine blk_far ?_ NB258_286.out _; refine pl ?_; refine blk_far ?_ NB258_286.out _; refine pl ?_; refine blk_far ?_ NB258_286.out _; refine pl ?_; refine blk_far ?_ NB258_286.out _; refine pl ?_; refine blk_far ?_ NB258_286.out _; exact bx BK258.out) hb); replace BK259 := As.mk (blk_below (g := gb259) (o := .cells #[.int .i64 a1_0, .int .i64 a1_1] 48 (0, 0)) (by refine pl ?_; refine blk_far ?_ NB259_286.out _; refine pl ?_; refine blk_far ?_ NB259_286.out _; refine pl ?_; refine blk_far ?_ NB259_286.out _; refine pl ?_; refine blk_far ?_ NB259_286.out _; refine pl ?_; refine blk_far ?_ NB259_286.out _; exact bx BK259.out) hb); replace BK286 := As.mk (blk_below (g := gb286) (o := .cells #[.slice Ao27 t274.length co27, .slice Ao29 t277.length co29, .slice Ao31 t280.length co31, .int .i64 t283, .int .i64 t284] 34 (0, 0)) (by refine pl ?_; refine blk_put (cs := #[.slice Ao27 t274.length co27, .slice Ao29 t277.length co29, .slice Ao31 t280.length co31, .int .i64 t283, .int .i64 0]) ?_ 4 _ rfl; refine pl ?_; refine blk_put (cs := #[.slice Ao27 t274.length co27, .slice Ao29 t277.length co29, .slice Ao31 t280.length co31, .int .i64 0, .int .i64 0]) ?_ 3 _ rfl; refine pl ?_; refine blk_put (cs := #[.slice Ao27 t274.length co27, .slice Ao29 t277.length co29, .slice none 0 0, .int .i64 0, .int .i64 0]) ?_ 2 _ rfl; refine pl ?_; refine blk_put (cs := #[.slice Ao27 t274.length co27, .slice none 0 0, .slice none 0 0, .int .i64 0, .int .i64 0]) ?_ 1 _ rfl; refine pl ?_; refine blk_put (cs := #[.slice none 0 0, .slice none 0 0, .slice none 0 0, .int .i64 0, .int .i64 0]) ?_ 0 _ rfl; exact bx BK286.out) hb); replace HB := As.mk (below_step (be w) hb); (try clear hb); (try clear hb2); (try clear hk); (try clear hi); (try clear ho0); (try clear ho1); (try clear ho2)) | ((with_reducible refine gate_dst (N := 8) rfl ?_); refine box_event ?hg (N := 8) ?hd (cs := #[.slice none 0 0, .slice none 0 0, .slice none 0 0, .int .i64 0, .int .i64 0]) (t := 34) ?hr ?_; (case hd => rfl); (case hg => rfl); (case hr => first | (go_simp; done) | (go_simp; rfl)); intro gb298 hg w39 hbox hb; replace HO263 := As.mk (Kd.R_below (by (with_reducible repeat (first | apply Kd.R_alloc | apply Kd.R_drewN | apply Kd.R_drew)); exact HO263.out) hb); replace HO266 := As.mk (Kd.R_below (by (with_reducible repeat (first | apply Kd.R_alloc | apply Kd.R_drewN | apply Kd.R_drew)); exact HO266.out) hb); replace HO269 := As.mk (Kd.R_below (by (with_reducible repeat (first | apply Kd.R_alloc | apply Kd.R_drewN | apply Kd.R_drew)); exact HO269.out) hb); replace HO276 := As.mk (Kd.R_below (by (with_reducible repeat (first | apply Kd.R_alloc | apply Kd.R_drewN | apply Kd.R_drew)); exact HO276.out) hb); replace HO279 := As.mk (Kd.R_below (by (with_reducible repeat (first | apply Kd.R_alloc | apply Kd.R_drewN | apply Kd.R_drew)); exact HO279.out) hb); replace HO282 := As.mk (Kd.R_below (by (with_reducible repeat (first | apply Kd.R_alloc | apply Kd.R_drewN | apply Kd.R_drew)); exact HO282.out) hb); replace HO289 := As.mk (Kd.R_below (by (with_reducible repeat (first | apply Kd.R_alloc | apply Kd.R_drewN | apply Kd.R_drew)); exact HO289.out) hb); replace HO292 := As.mk (Kd.R_below (by (with_reducible repeat (first | apply Kd.R_alloc | apply Kd.R_drewN | apply Kd.R_drew)); exact HO292.out) hb); replace HO295 := As.mk (Kd.R_below (by (with_reducible repeat (first | apply Kd.R_alloc | apply Kd.R_drewN | apply Kd.R_drew)); exact HO295.out) hb); have BK298 := As.mk (hbox); have GW298 := As.mk (gs w hg); have GE298 := As.mk (gs w hg); replace HB := As.mk (below_step (be w) hb); have NB258_298 := As.mk (nl hg (bx BK258.out)); have NB298_258 := As.mk (ng hg (bx BK258.out)); replace BK258 := As.mk (blk_below (bx BK258.out) hb); have NB259_298 := As.mk (nl hg (bx BK259.out)); have NB298_259 := As.mk (ng hg (bx BK259.out)); replace BK259 := As.mk (blk_below (bx BK259.out) hb); have NB286_298 := As.mk (nl hg (bx BK286.out)); have NB298_286 := As.mk (ng hg (bx BK286.out)); replace BK286 := As.mk (blk_below (bx BK286.out) hb); clear hb hbox hg; obtain ⟨Ao40, co40, eo40⟩ := Kd.R_slice HO289.out; subst eo40; have hnb41 := NB298_258.out; have hnc41 := NB258_298.out; have hnb42 := NB298_259.out; have hnc42 := NB259_298.out; have hnb43 := NB298_286.out; have hnc43 := NB286_298.out; obtain ⟨hcz44_0, hcz44_1, hcz44_2, hcz44_3, hcz44_4, hfz44_0, hfz44_1, hfz44_2, hfz44_3, hfz44_4⟩ := cl5 BK298.out; obtain ⟨Ao45, co45, eo45⟩ := Kd.R_slice HO292.out; subst eo45; obtain ⟨Ao46, co46, eo46⟩ := Kd.R_slice HO295.out; subst eo46))
   have n0_ : As (Kd.R k93 93 (((((w39.setCell ⟨gb298, 0, none⟩ (.slice Ao40 t287.length co40)).setCell ⟨gb298, 1, none⟩ (.slice Ao45 t290.length co45)).setCell ⟨gb298, 2, none⟩ (.slice Ao46 t293.length co46)).setCell ⟨gb298, 3, none⟩ (.int .i64 t296)).setCell ⟨gb298, 4, none⟩ (.int .i64 t297)) w.heap.size (fun k_ => some k_ ≠ (.slice Ao27 t274.length co27 : Value).ownBlock ∧ some k_ ≠ (.slice Ao40 t287.length co40 : Value).ownBlock) v262 t261) := ⟨by (with_reducible repeat (first | apply Kd.R_alloc | apply Kd.R_drewN | apply Kd.R_drew)); exact Kd.R_mono (Kd.R_far (p := ⟨gb298, 4, none⟩) (Kd.R_far (p := ⟨gb298, 3, none⟩) (Kd.R_far (p := ⟨gb298, 2, none⟩) (Kd.R_far (p := ⟨gb298, 1, none⟩) (Kd.R_far (p := ⟨gb298, 0, none⟩) (Kd.R_types HO263.out BK298.out (by decide)) (fun _ hk => hk.2) (.slice Ao40 t287.length co40)) (fun _ hk => hk.2) (.slice Ao45 t290.length co45)) (fun _ hk => hk.2) (.slice Ao46 t293.length co46)) (fun _ hk => hk.2) (.int .i64 t296)) (fun _ hk => hk.2) (.int .i64 t297)) (fun _ hk => ⟨hk.1.1, hk.1.2⟩)⟩
   have n1_ : As (Kd.R (Kd.int .i64) 3 (((((w39.setCell ⟨gb298, 0, none⟩ (.slice Ao40 t287.length co40)).setCell ⟨gb298, 1, none⟩ (.slice Ao45 t290.length co45)).setCell ⟨gb298, 2, none⟩ (.slice Ao46 t293.length co46)).setCell ⟨gb298, 3, none⟩ (.int .i64 t296)).setCell ⟨gb298, 4, none⟩ (.int .i64 t297)) w.heap.size (fun k_ => some k_ ≠ (v268 : Value).ownBlock ∧ some k_ ≠ (.slice Ao29 t277.length co29 : Value).ownBlock ∧ some k_ ≠ (.slice Ao31 t280.length co31 : Value).ownBlock ∧ some k_ ≠ (.slice Ao45 t290.length co45 : Value).ownBlock ∧ some k_ ≠ (.slice Ao46 t293.length co46 : Value).ownBlock) v265 t264) := ⟨by (with_reducible repeat (first | apply Kd.R_alloc | apply Kd.R_drewN | apply Kd.R_drew)); exact Kd.R_mono (Kd.R_far (p := ⟨gb298, 4, none⟩) (Kd.R_far (p := ⟨gb298, 3, none⟩) (Kd.R_far (p := ⟨gb298, 2, none⟩) (Kd.R_far (p := ⟨gb298, 1, none⟩) (Kd.R_far (p := ⟨gb298, 0, none⟩) (Kd.R_types HO266.out BK298.out (by decide)) (fun _ hk => hk.2) (.slice Ao40 t287.length co40)) (fun _ hk => hk.2) (.slice Ao45 t290.length co45)) (fun _ hk => hk.2) (.slice Ao46 t293.length co46)) (fun _ hk => hk.2) (.int .i64 t296)) (fun _ hk => hk.2) (.int .i64 t297)) (fun _ hk => ⟨hk.1.1.1.1, ⟨hk.1.1.1.2.1, ⟨hk.1.1.1.2.2, ⟨hk.1.1.2, hk.1.2⟩⟩⟩⟩)⟩
   have n2_ : As (Kd.R (Kd.int .i64) 3 (((((w39.setCell ⟨gb298, 0, none⟩ (.slice Ao40 t287.length co40)).setCell ⟨gb298, 1, none⟩ (.slice Ao45 t290.length co45)).setCell ⟨gb298, 2, none⟩ (.slice Ao46 t293.length co46)).setCell ⟨gb298, 3, none⟩ (.int .i64 t296)).setCell ⟨gb298, 4, none⟩ (.int .i64 t297)) w.heap.size (fun k_ => some k_ ≠ (v265 : Value).ownBlock ∧ some k_ ≠ (.slice Ao29 t277.length co29 : Value).ownBlock ∧ some k_ ≠ (.slice Ao31 t280.length co31 : Value).ownBlock ∧ some k_ ≠ (.slice Ao45 t290.length co45 : Value).ownBlock ∧ some k_ ≠ (.slice Ao46 t293.length co46 : Value).ownBlock) v268 t267) := ⟨by (with_reducible repeat (first | apply Kd.R_alloc | apply Kd.R_drewN | apply Kd.R_drew)); exact Kd.R_mono (Kd.R_far (p := ⟨gb298, 4, none⟩) (Kd.R_far (p := ⟨gb298, 3, none⟩) (Kd.R_far (p := ⟨gb298, 2, none⟩) (Kd.R_far (p := ⟨gb298, 1, none⟩) (Kd.R_far (p := ⟨gb298, 0, none⟩) (Kd.R_types HO269.out BK298.out (by decide)) (fun _ hk => hk.2) (.slice Ao40 t287.length co40)) (fun _ hk => hk.2) (.slice Ao45 t290.length co45)) (fun _ hk => hk.2) (.slice Ao46 t293.length co46)) (fun _ hk => hk.2) (.int .i64 t296)) (fun _ hk => hk.2) (.int .i64 t297)) (fun _ hk => ⟨hk.1.1.1.1, ⟨hk.1.1.1.2.1, ⟨hk.1.1.1.2.2, ⟨hk.1.1.2, hk.1.2⟩⟩⟩⟩)⟩
   have n3_ : As (Kd.R k93 93 (((((w39.setCell ⟨gb298, 0, none⟩ (.slice Ao40 t287.length co40)).setCell ⟨gb298, 1, none⟩ (.slice Ao45 t290.length co45)).setCell ⟨gb298, 2, none⟩ (.slice Ao46 t293.length co46)).setCell ⟨gb298, 3, none⟩ (.int .i64 t296)).setCell ⟨gb298, 4, none⟩ (.int .i64 t297)) w.heap.size (fun k_ => some k_ ≠ (v262 : Value).ownBlock ∧ some k_ ≠ (.slice Ao40 t287.length co40 : Value).ownBlock) (.slice Ao27 t274.length co27) t274) := ⟨by (with_reducible repeat (first | apply Kd.R_alloc | apply Kd.R_drewN | apply Kd.R_drew)); exact Kd.R_mono (Kd.R_far (p := ⟨gb298, 4, none⟩) (Kd.R_far (p := ⟨gb298, 3, none⟩) (Kd.R_far (p := ⟨gb298, 2, none⟩) (Kd.R_far (p := ⟨gb298, 1, none⟩) (Kd.R_far (p := ⟨gb298, 0, none⟩) (Kd.R_types HO276.out BK298.out (by decide)) (fun _ hk => hk.2) (.slice Ao40 t287.length co40)) (fun _ hk => hk.2) (.slice Ao45 t290.length co45)) (fun _ hk => hk.2) (.slice Ao46 t293.length co46)) (fun _ hk => hk.2) (.int .i64 t296)) (fun _ hk => hk.2) (.int .i64 t297)) (fun _ hk => ⟨hk.1.1, hk.1.2⟩)⟩
   have n4_ : As (Kd.R (Kd.int .i64) 3 (((((w39.setCell ⟨gb298, 0, none⟩ (.slice Ao40 t287.length co40)).setCell ⟨gb298, 1, none⟩ (.slice Ao45 t290.length co45)).setCell ⟨gb298, 2, none⟩ (.slice Ao46 t293.length co46)).setCell ⟨gb298, 3, none⟩ (.int .i64 t296)).setCell ⟨gb298, 4, none⟩ (.int .i64 t297)) w.heap.size (fun k_ => some k_ ≠ (v265 : Value).ownBlock ∧ some k_ ≠ (v268 : Value).ownBlock ∧ some k_ ≠ (.slice Ao31 t280.length co31 : Value).ownBlock ∧ some k_ ≠ (.slice Ao45 t290.length co45 : Value).ownBlock ∧ some k_ ≠ (.slice Ao46 t293.length co46 : Value).ownBlock) (.slice Ao29 t277.length co29) t277) := ⟨by (with_reducible repeat (first | apply Kd.R_alloc | apply Kd.R_drewN | apply Kd.R_drew)); exact Kd.R_mono (Kd.R_far (p := ⟨gb298, 4, none⟩) (Kd.R_far (p := ⟨gb298, 3, none⟩) (Kd.R_far (p := ⟨gb298, 2, none⟩) (Kd.R_far (p := ⟨gb298, 1, none⟩) (Kd.R_far (p := ⟨gb298, 0, none⟩) (Kd.R_types HO279.out BK298.out (by decide)) (fun _ hk => hk.2) (.slice Ao40 t287.length co40)) (fun _ hk => hk.2) (.slice Ao45 t290.length co45)) (fun _ hk => hk.2) (.slice Ao46 t293.length co46)) (fun _ hk => hk.2) (.int .i64 t296)) (fun _ hk => hk.2) (.int .i64 t297)) (fun _ hk => ⟨hk.1.1.1.1, ⟨hk.1.1.1.2.1, ⟨hk.1.1.1.2.2, ⟨hk.1.1.2, hk.1.2⟩⟩⟩⟩)⟩
   have n5_ : As (Kd.R (Kd.int .i64) 3 (((((w39.setCell ⟨gb298, 0, none⟩ (.slice Ao40 t287.length co40)).setCell ⟨gb298, 1, none⟩ (.slice Ao45 t290.length co45)).setCell ⟨gb298, 2, none⟩ (.slice Ao46 t293.length co46)).setCell ⟨gb298, 3, none⟩ (.int .i64 t296)).setCell ⟨gb298, 4, none⟩ (.int .i64 t297)) w.heap.size (fun k_ => some k_ ≠ (v265 : Value).ownBlock ∧ some k_ ≠ (v268 : Value).ownBlock ∧ some k_ ≠ (.slice Ao29 t277.length co29 : Value).ownBlock ∧ some k_ ≠ (.slice Ao45 t290.length co45 : Value).ownBlock ∧ some k_ ≠ (.slice Ao46 t293.length co46 : Value).ownBlock) (.slice Ao31 t280.length co31) t280) := ⟨by (with_reducible repeat (first | apply Kd.R_alloc | apply Kd.R_drewN | apply Kd.R_drew)); exact Kd.R_mono (Kd.R_far (p := ⟨gb298, 4, none⟩) (Kd.R_far (p := ⟨gb298, 3, none⟩) (Kd.R_far (p := ⟨gb298, 2, none⟩) (Kd.R_far (p := ⟨gb298, 1, none⟩) (Kd.R_far (p := ⟨gb298, 0, none⟩) (Kd.R_types HO282.out BK298.out (by decide)) (fun _ hk => hk.2) (.slice Ao40 t287.length co40)) (fun _ hk => hk.2) (.slice Ao45 t290.length co45)) (fun _ hk => hk.2) (.slice Ao46 t293.length co46)) (fun _ hk => hk.2) (.int .i64 t296)) (fun _ hk => hk.2) (.int .i64 t297)) (fun _ hk => ⟨hk.1.1.1.1, ⟨hk.1.1.1.2.1, ⟨hk.1.1.1.2.2, ⟨hk.1.1.2, hk.1.2⟩⟩⟩⟩)⟩
   have n6_ : As (Kd.R k93 93 (((((w39.setCell ⟨gb298, 0, none⟩ (.slice Ao40 t287.length co40)).setCell ⟨gb298, 1, none⟩ (.slice Ao45 t290.length co45)).setCell ⟨gb298, 2, none⟩ (.slice Ao46 t293.length co46)).setCell ⟨gb298, 3, none⟩ (.int .i64 t296)).setCell ⟨gb298, 4, none⟩ (.int .i64 t297)) w.heap.size (fun k_ => some k_ ≠ (v262 : Value).ownBlock ∧ some k_ ≠ (.slice Ao27 t274.length co27 : Value).ownBlock) (.slice Ao40 t287.length co40) t287) := ⟨by (with_reducible repeat (first | apply Kd.R_alloc | apply Kd.R_drewN | apply Kd.R_drew)); exact Kd.R_mono (Kd.R_far (p := ⟨gb298, 4, none⟩) (Kd.R_far (p := ⟨gb298, 3, none⟩) (Kd.R_far (p := ⟨gb298, 2, none⟩) (Kd.R_far (p := ⟨gb298, 1, none⟩) (Kd.R_far (p := ⟨gb298, 0, none⟩) (Kd.R_types HO289.out BK298.out (by decide)) (fun _ hk => hk.2) (.slice Ao40 t287.length co40)) (fun _ hk => hk.2) (.slice Ao45 t290.length co45)) (fun _ hk => hk.2) (.slice Ao46 t293.length co46)) (fun _ hk => hk.2) (.int .i64 t296)) (fun _ hk => hk.2) (.int .i64 t297)) (fun _ hk => ⟨hk.1.1.2, hk.1.2⟩)⟩
   have n7_ : As (Kd.R (Kd.int .i64) 3 (((((w39.setCell ⟨gb298, 0, none⟩ (.slice Ao40 t287.length co40)).setCell ⟨gb298, 1, none⟩ (.slice Ao45 t290.length co45)).setCell ⟨gb298, 2, none⟩ (.slice Ao46 t293.length co46)).setCell ⟨gb298, 3, none⟩ (.int .i64 t296)).setCell ⟨gb298, 4, none⟩ (.int .i64 t297)) w.heap.size (fun k_ => some k_ ≠ (v265 : Value).ownBlock ∧ some k_ ≠ (v268 : Value).ownBlock ∧ some k_ ≠ (.slice Ao29 t277.length co29 : Value).ownBlock ∧ some k_ ≠ (.slice Ao31 t280.length co31 : Value).ownBlock ∧ some k_ ≠ (.slice Ao46 t293.length co46 : Value).ownBlock) (.slice Ao45 t290.length co45) t290) := ⟨by (with_reducible repeat (first | apply Kd.R_alloc | apply Kd.R_drewN | apply Kd.R_drew)); exact Kd.R_mono (Kd.R_far (p := ⟨gb298, 4, none⟩) (Kd.R_far (p := ⟨gb298, 3, none⟩) (Kd.R_far (p := ⟨gb298, 2, none⟩) (Kd.R_far (p := ⟨gb298, 1, none⟩) (Kd.R_far (p := ⟨gb298, 0, none⟩) (Kd.R_types HO292.out BK298.out (by decide)) (fun _ hk => hk.2) (.slice Ao40 t287.length co40)) (fun _ hk => hk.2) (.slice Ao45 t290.length co45)) (fun _ hk => hk.2) (.slice Ao46 t293.length co46)) (fun _ hk => hk.2) (.int .i64 t296)) (fun _ hk => hk.2) (.int .i64 t297)) (fun _ hk => ⟨hk.1.1.1.1.2, ⟨hk.1.1.1.2, ⟨hk.1.1.2, ⟨hk.1.2, hk.1.1.1.1.1⟩⟩⟩⟩)⟩
   have n8_ : As (Kd.R (Kd.int .i64) 3 (((((w39.setCell ⟨gb298, 0, none⟩ (.slice Ao40 t287.length co40)).setCell ⟨gb298, 1, none⟩ (.slice Ao45 t290.length co45)).setCell ⟨gb298, 2, none⟩ (.slice Ao46 t293.length co46)).setCell ⟨gb298, 3, none⟩ (.int .i64 t296)).setCell ⟨gb298, 4, none⟩ (.int .i64 t297)) w.heap.size (fun k_ => some k_ ≠ (v265 : Value).ownBlock ∧ some k_ ≠ (v268 : Value).ownBlock ∧ some k_ ≠ (.slice Ao29 t277.length co29 : Value).ownBlock ∧ some k_ ≠ (.slice Ao31 t280.length co31 : Value).ownBlock ∧ some k_ ≠ (.slice Ao45 t290.length co45 : Value).ownBlock) (.slice Ao46 t293.length co46) t293) := ⟨by (with_reducible repeat (first | apply Kd.R_alloc | apply Kd.R_drewN | apply Kd.R_drew)); exact Kd.R_mono (Kd.R_far (p := ⟨gb298, 4, none⟩) (Kd.R_far (p := ⟨gb298, 3, none⟩) (Kd.R_far (p := ⟨gb298, 2, none⟩) (Kd.R_far (p := ⟨gb298, 1, none⟩) (Kd.R_far (p := ⟨gb298, 0, none⟩) (Kd.R_types HO295.out BK298.out (by decide)) (fun _ hk => hk.2) (.slice Ao40 t287.length co40)) (fun _ hk => hk.2) (.slice Ao45 t290.length co45)) (fun _ hk => hk.2) (.slice Ao46 t293.length co46)) (fun _ hk => hk.2) (.int .i64 t296)) (fun _ hk => hk.2) (.int .i64 t297)) (fun _ hk => ⟨hk.1.1.1.1.2, ⟨hk.1.1.1.2, ⟨hk.1.1.2, ⟨hk.1.2, hk.1.1.1.1.1⟩⟩⟩⟩)⟩
   have n9_ : As ((((((w39.setCell ⟨gb298, 0, none⟩ (.slice Ao40 t287.length co40)).setCell ⟨gb298, 1, none⟩ (.slice Ao45 t290.length co45)).setCell ⟨gb298, 2, none⟩ (.slice Ao46 t293.length co46)).setCell ⟨gb298, 3, none⟩ (.int .i64 t296)).setCell ⟨gb298, 4, none⟩ (.int .i64 t297)).heap[gb258]? = some (.cells #[.slice A0_0 l0_0.length c0_0, .slice A0_1 l0_1.length c0_1, .slice A0_2 l0_2.length c0_2, .int .i64 a0_3, .int .i64 a0_4] 47 (0, 0))) := ⟨by refine pl ?_; refine blk_far ?_ NB258_298.out _; refine pl ?_; refine blk_far ?_ NB258_298.out _; refine pl ?_; refine blk_far ?_ NB258_298.out _; refine pl ?_; refine blk_far ?_ NB258_298.out _; refine pl ?_; refine blk_far ?_ NB258_298.out _; exact bx BK258.out⟩
   have n10_ : As ((((((w39.setCell ⟨gb298, 0, none⟩ (.slice Ao40 t287.length co40)).setCell ⟨gb298, 1, none⟩ (.slice Ao45 t290.length co45)).setCell ⟨gb298, 2, none⟩ (.slice Ao46 t293.length co46)).setCell ⟨gb298, 3, none⟩ (.int .i64 t296)).setCell ⟨gb298, 4, none⟩ (.int .i64 t297)).heap[gb259]? = some (.cells #[.int .i64 a1_0, .int .i64 a1_1] 48 (0, 0))) := ⟨by refine pl ?_; refine blk_far ?_ NB259_298.out _; refine pl ?_; refine blk_far ?_ NB259_298.out _; refine pl ?_; refine blk_far ?_ NB259_298.out _; refine pl ?_; refine blk_far ?_ NB259_298.out _; refine pl ?_; refine blk_far ?_ NB259_298.out _; exact bx BK259.out⟩
   have n11_ : As ((((((w39.setCell ⟨gb298, 0, none⟩ (.slice Ao40 t287.length co40)).setCell ⟨gb298, 1, none⟩ (.slice Ao45 t290.length co45)).setCell ⟨gb298, 2, none⟩ (.slice Ao46 t293.length co46)).setCell ⟨gb298, 3, none⟩ (.int .i64 t296)).setCell ⟨gb298, 4, none⟩ (.int .i64 t297)).heap[gb286]? = some (.cells #[.slice Ao27 t274.length co27, .slice Ao29 t277.length co29, .slice Ao31 t280.length co31, .int .i64 t283, .int .i64 t284] 34 (0, 0))) := ⟨by refine pl ?_; refine blk_far ?_ NB286_298.out _; refine pl ?_; refine blk_far ?_ NB286_298.out _; refine pl ?_; refine blk_far ?_ NB286_298.out _; refine pl ?_; refine blk_far ?_ NB286_298.out _; refine pl ?_; refine blk_far ?_ NB286_298.out _; exact bx BK286.out⟩
   have n12_ : As ((((((w39.setCell ⟨gb298, 0, none⟩ (.slice Ao40 t287.length co40)).setCell ⟨gb298, 1, none⟩ (.slice Ao45 t290.length co45)).setCell ⟨gb298, 2, none⟩ (.slice Ao46 t293.length co46)).setCell ⟨gb298, 3, none⟩ (.int .i64 t296)).setCell ⟨gb298, 4, none⟩ (.int .i64 t297)).heap[gb298]? = some (.cells #[.slice Ao40 t287.length co40, .slice Ao45 t290.length co45, .slice Ao46 t293.length co46, .int .i64 t296, .int .i64 t297] 34 (0, 0))) := ⟨by refine pl ?_; refine blk_put (cs := #[.slice Ao40 t287.length co40, .slice Ao45 t290.length co45, .slice Ao46 t293.length co46, .int .i64 t296, .int .i64 0]) ?_ 4 _ rfl; refine pl ?_; refine blk_put (cs := #[.slice Ao40 t287.length co40, .slice Ao45 t290.length co45, .slice Ao46 t293.length co46, .int .i64 0, .int .i64 0]) ?_ 3 _ rfl; refine pl ?_; refine blk_put (cs := #[.slice Ao40 t287.length co40, .slice Ao45 t290.length co45, .slice none 0 0, .int .i64 0, .int .i64 0]) ?_ 2 _ rfl; refine pl ?_; refine blk_put (cs := #[.slice Ao40 t287.length co40, .slice none 0 0, .slice none 0 0, .int .i64 0, .int .i64 0]) ?_ 1 _ rfl; refine pl ?_; refine blk_put (cs := #[.slice none 0 0, .slice none 0 0, .slice none 0 0, .int .i64 0, .int .i64 0]) ?_ 0 _ rfl; exact bx BK298.out⟩
   have n13_ : As (Below w.heap.size w (((((w39.setCell ⟨gb298, 0, none⟩ (.slice Ao40 t287.length co40)).setCell ⟨gb298, 1, none⟩ (.slice Ao45 t290.length co45)).setCell ⟨gb298, 2, none⟩ (.slice Ao46 t293.length co46)).setCell ⟨gb298, 3, none⟩ (.int .i64 t296)).setCell ⟨gb298, 4, none⟩ (.int .i64 t297))) := ⟨be w⟩
   (try clear HO263)
   (try clear HO266)
   (try clear HO269)
   (try clear HO276)
   (try clear HO279)
   (try clear HO282)
   (try clear HO289)
   (try clear HO292)
   (try clear HO295)
   (try clear BK258)
   (try clear BK259)
   (try clear BK286)
   (try clear BK298)
   (try clear HB)
   generalize (((((w39.setCell ⟨gb298, 0, none⟩ (.slice Ao40 t287.length co40)).setCell ⟨gb298, 1, none⟩ (.slice Ao45 t290.length co45)).setCell ⟨gb298, 2, none⟩ (.slice Ao46 t293.length co46)).setCell ⟨gb298, 3, none⟩ (.int .i64 t296)).setCell ⟨gb298, 4, none⟩ (.int .i64 t297)) = w47 at n0_ n1_ n2_ n3_ n4_ n5_ n6_ n7_ n8_ n9_ n10_ n11_ n12_ n13_ ⊢
   have HO263 := n0_
   have HO266 := n1_
   have HO269 := n2_
   have HO276 := n3_
   have HO279 := n4_
   have HO282 := n5_
   have HO289 := n6_
   have HO292 := n7_
   have HO295 := n8_
   have BK258 := n9_
   have BK259 := n10_
   have BK286 := n11_
   have BK298 := n12_
   have HB := n13_
   clear n0_ n1_ n2_ n3_ n4_ n5_ n6_ n7_ n8_ n9_ n10_ n11_ n12_ n13_
   replace HO263 := As.mk (Kd.R_drew HO263.out)
   replace HO266 := As.mk (Kd.R_drew HO266.out)
   replace HO269 := As.mk (Kd.R_drew HO269.out)
   replace HO276 := As.mk (Kd.R_drew HO276.out)
   replace HO279 := As.mk (Kd.R_drew HO279.out)
   replace HO282 := As.mk (Kd.R_drew HO282.out)
   replace HO289 := As.mk (Kd.R_drew HO289.out)
   replace HO292 := As.mk (Kd.R_drew HO292.out)
   replace HO295 := As.mk (Kd.R_drew HO295.out)
   replace BK258 := As.mk (blk_drew BK258.out)
   replace BK259 := As.mk (blk_drew BK259.out)
   replace BK286 := As.mk (blk_drew BK286.out)
   replace BK298 := As.mk (blk_drew BK298.out)
   replace HB := As.mk (below_drew1 HB.out)
   refine start_ (n := 10) (S := fun w' => w'.cell? ⟨gb298, 0, none⟩ = some (.slice Ao40 t287.length co40) ∧ w'.cell? ⟨gb298, 1, none⟩ = some (.slice Ao45 t290.length co45) ∧ w'.cell? ⟨gb298, 2, none⟩ = some (.slice Ao46 t293.length co46) ∧ w'.cell? ⟨gb298, 3, none⟩ = some (.int .i64 t296) ∧ w'.cell? ⟨gb298, 4, none⟩ = some (.int .i64 t297) ∧ w'.cell? ⟨gb259, 0, none⟩ = some (.int .i64 a1_0) ∧ w'.cell? ⟨gb259, 1, none⟩ = some (.int .i64 a1_1)) (ds := []) #[O, O, O, O, O, O, O, O, O, O] (by kernel_rfl) rfl rfl ⟨(blk_cell BK298.out 0).trans rfl, (blk_cell BK298.out 1).trans rfl, (blk_cell BK298.out 2).trans rfl, (blk_cell BK298.out 3).trans rfl, (blk_cell BK298.out 4).trans rfl, (blk_cell BK259.out 0).trans rfl, (blk_cell BK259.out 1).trans rfl⟩ (fun hHeld => ?_); refine with_tabW laws_FnExactLooked.tab7 laws_FnExactLooked.bits7 (fun HT_ HW_ => ?_)
   generalize w47.drew = w48 at HO263 HO266 HO269 HO276 HO279 HO282 HO289 HO292 HO295 BK258 BK259 BK286 BK298 HB hHeld ⊢
   refine take_ (i := 0) (N := some 32) (v := ?_) (a' := ?_) #[I, O, O, O, O, O, O, O, O, O] rfl rfl (take_ofW HT_.out HW_.out (by kernel_rfl)) (fun _ _ _ h => h) (Or.inl ⟨by rfl, ?_⟩) hHeld ?_ ?_
   rotate_left
   ·
    rintro w' ⟨s0, s1, s2, s3, s4, s5, s6⟩
    go_simp
    with_reducible rfl
   rotate_left
   ·
    simp only [pk, i64_w, i32_w]
    rfl
   refine take_ (i := 1) (N := some 33) (v := ?_) (a' := ?_) #[I, I, O, O, O, O, O, O, O, O] rfl rfl (take_ofW HT_.out HW_.out (by kernel_rfl)) (fun _ _ _ h => h) (Or.inl ⟨by rfl, ?_⟩) hHeld ?_ ?_
   rotate_left
   ·
    rintro w' ⟨s0, s1, s2, s3, s4, s5, s6⟩
    go_simp
    with_reducible rfl
   rotate_left
   ·
    simp only [pk, i64_w, i32_w]
    rfl
   refine join_ (σ := Value × Value × Value × Nat) 2 #[true, true, true, true, true, true, true, true, false, false] (fun s_ => [(34, .agg #[.int .i64 t299, .int .i64 t300]), (35, .tuple #[.agg #[s_.1, s_.2.1, s_.2.2.1, .int .i64 t310, .int .i64 t311], .int .i64 t312]), (9, .pointer (some ⟨s_.2.2.2, 0, none⟩)), (31, .tuple #[.agg #[s_.1, s_.2.1, s_.2.2.1, .int .i64 t310, .int .i64 t311], .int .i64 t312]), (36, .agg #[s_.1, s_.2.1, s_.2.2.1, .int .i64 t310, .int .i64 t311]), (37, .int .i64 t312)]) (fun s_ w' => (w'.cell? ⟨gb298, 0, none⟩ = some (.slice Ao40 t287.length co40) ∧ w'.cell? ⟨gb298, 1, none⟩ = some (.slice Ao45 t290.length co45) ∧ w'.cell? ⟨gb298, 2, none⟩ = some (.slice Ao46 t293.length co46) ∧ w'.cell? ⟨gb298, 3, none⟩ = some (.int .i64 t296) ∧ w'.cell? ⟨gb298, 4, none⟩ = some (.int .i64 t297) ∧ w'.cell? ⟨gb259, 0, none⟩ = some (.int .i64 a1_0) ∧ w'.cell? ⟨gb259, 1, none⟩ = some (.int .i64 a1_1)) ∧ (Kd.R k93 93 w' w.heap.size (fun k_ => some k_ ≠ (.slice Ao27 t274.length co27 : Value).ownBlock ∧ some k_ ≠ (.slice Ao40 t287.length co40 : Value).ownBlock ∧ some k_ ≠ (s_.1 : Value).ownBlock) v262 t261) ∧ (Kd.R (Kd.int .i64) 3 w' w.heap.size (fun k_ => some k_ ≠ (v268 : Value).ownBlock ∧ some k_ ≠ (.slice Ao29 t277.length co29 : Value).ownBlock ∧ some k_ ≠ (.slice Ao31 t280.length co31 : Value).ownBlock ∧ some k_ ≠ (.slice Ao45 t290.length co45 : Value).ownBlock ∧ some k_ ≠ (.slice Ao46 t293.length co46 : Value).ownBlock ∧ some k_ ≠ (s_.2.1 : Value).ownBlock ∧ some k_ ≠ (s_.2.2.1 : Value).ownBlock) v265 t264) ∧ (Kd.R (Kd.int .i64) 3 w' w.heap.size (fun k_ => some k_ ≠ (v265 : Value).ownBlock ∧ some k_ ≠ (.slice Ao29 t277.length co29 : Value).ownBlock ∧ some k_ ≠ (.slice Ao31 t280.length co31 : Value).ownBlock ∧ some k_ ≠ (.slice Ao45 t290.length co45 : Value).ownBlock ∧ some k_ ≠ (.slice Ao46 t293.length co46 : Value).ownBlock ∧ some k_ ≠ (s_.2.1 : Value).ownBlock ∧ some k_ ≠ (s_.2.2.1 : Value).ownBlock) v268 t267) ∧ (Kd.R k93 93 w' w.heap.size (fun k_ => some k_ ≠ (v262 : Value).ownBlock ∧ some k_ ≠ (.slice Ao40 t287.length co40 : Value).ownBlock ∧ some k_ ≠ (s_.1 : Value).ownBlock) (.slice Ao27 t274.length co27) t274) ∧ (Kd.R (Kd.int .i64) 3 w' w.heap.size (fun k_ => some k_ ≠ (v265 : Value).ownBlock ∧ some k_ ≠ (v268 : Value).ownBlock ∧ some k_ ≠ (.slice Ao31 t280.length co31 : Value).ownBlock ∧ some k_ ≠ (.slice Ao45 t290.length co45 : Value).ownBlock ∧ some k_ ≠ (.slice Ao46 t293.length co46 : Value).ownBlock ∧ some k_ ≠ (s_.2.1 : Value).ownBlock ∧ some k_ ≠ (s_.2.2.1 : Value).ownBlock) (.slice Ao29 t277.length co29) t277) ∧ (Kd.R (Kd.int .i64) 3 w' w.heap.size (fun k_ => some k_ ≠ (v265 : Value).ownBlock ∧ some k_ ≠ (v268 : Value).ownBlock ∧ some k_ ≠ (.slice Ao29 t277.length co29 : Value).ownBlock ∧ some k_ ≠ (.slice Ao45 t290.length co45 : Value).ownBlock ∧ some k_ ≠ (.slice Ao46 t293.length co46 : Value).ownBlock ∧ some k_ ≠ (s_.2.1 : Value).ownBlock ∧ some k_ ≠ (s_.2.2.1 : Value).ownBlock) (.slice Ao31 t280.length co31) t280) ∧ (Kd.R k93 93 w' w.heap.size (fun k_ => some k_ ≠ (v262 : Value).ownBlock ∧ some k_ ≠ (.slice Ao27 t274.length co27 : Value).ownBlock ∧ some k_ ≠ (s_.1 : Value).ownBlock) (.slice Ao40 t287.length co40) t287) ∧ (Kd.R (Kd.int .i64) 3 w' w.heap.size (fun k_ => some k_ ≠ (v265 : Value).ownBlock ∧ some k_ ≠ (v268 : Value).ownBlock ∧ some k_ ≠ (.slice Ao29 t277.length co29 : Value).ownBlock ∧ some k_ ≠ (.slice Ao31 t280.length co31 : Value).ownBlock ∧ some k_ ≠ (.slice Ao46 t293.length co46 : Value).ownBlock ∧ some k_ ≠ (s_.2.1 : Value).ownBlock ∧ some k_ ≠ (s_.2.2.1 : Value).ownBlock) (.slice Ao45 t290.length co45) t290) ∧ (Kd.R (Kd.int .i64) 3 w' w.heap.size (fun k_ => some k_ ≠ (v265 : Value).ownBlock ∧ some k_ ≠ (v268 : Value).ownBlock ∧ some k_ ≠ (.slice Ao29 t277.length co29 : Value).ownBlock ∧ some k_ ≠ (.slice Ao31 t280.length co31 : Value).ownBlock ∧ some k_ ≠ (.slice Ao45 t290.length co45 : Value).ownBlock ∧ some k_ ≠ (s_.2.1 : Value).ownBlock ∧ some k_ ≠ (s_.2.2.1 : Value).ownBlock) (.slice Ao46 t293.length co46) t293) ∧ (Kd.R k93 93 w' w.heap.size (fun k_ => some k_ ≠ (v262 : Value).ownBlock ∧ some k_ ≠ (.slice Ao27 t274.length co27 : Value).ownBlock ∧ some k_ ≠ (.slice Ao40 t287.length co40 : Value).ownBlock) s_.1 t301) ∧ (Kd.R (Kd.int .i64) 3 w' w.heap.size (fun k_ => some k_ ≠ (v265 : Value).ownBlock ∧ some k_ ≠ (v268 : Value).ownBlock ∧ some k_ ≠ (.slice Ao29 t277.length co29 : Value).ownBlock ∧ some k_ ≠ (.slice Ao31 t280.length co31 : Value).ownBlock ∧ some k_ ≠ (.slice Ao45 t290.length co45 : Value).ownBlock ∧ some k_ ≠ (.slice Ao46 t293.length co46 : Value).ownBlock ∧ some k_ ≠ (s_.2.2.1 : Value).ownBlock) s_.2.1 t304) ∧ (Kd.R (Kd.int .i64) 3 w' w.heap.size (fun k_ => some k_ ≠ (v265 : Value).ownBlock ∧ some k_ ≠ (v268 : Value).ownBlock ∧ some k_ ≠ (.slice Ao29 t277.length co29 : Value).ownBlock ∧ some k_ ≠ (.slice Ao31 t280.length co31 : Value).ownBlock ∧ some k_ ≠ (.slice Ao45 t290.length co45 : Value).ownBlock ∧ some k_ ≠ (.slice Ao46 t293.length co46 : Value).ownBlock ∧ some k_ ≠ (s_.2.1 : Value).ownBlock) s_.2.2.1 t307) ∧ (w'.heap[gb258]? = some (.cells #[.slice A0_0 l0_0.length c0_0, .slice A0_1 l0_1.length c0_1, .slice A0_2 l0_2.length c0_2, .int .i64 a0_3, .int .i64 a0_4] 47 (0, 0))) ∧ (w'.heap[gb259]? = some (.cells #[.int .i64 a1_0, .int .i64 a1_1] 48 (0, 0))) ∧ (w'.heap[gb286]? = some (.cells #[.slice Ao27 t274.length co27, .slice Ao29 t277.length co29, .slice Ao31 t280.length co31, .int .i64 t283, .int .i64 t284] 34 (0, 0))) ∧ (w'.heap[gb298]? = some (.cells #[.slice Ao40 t287.length co40, .slice Ao45 t290.length co45, .slice Ao46 t293.length co46, .int .i64 t296, .int .i64 t297] 34 (0, 0))) ∧ (w'.heap[s_.2.2.2]? = some (.cells #[.slice none 0 0, .slice none 0 0, .slice none 0 0, .int .i64 0, .int .i64 0] 34 (0, 0))) ∧ (w.heap.size ≤ s_.2.2.2) ∧ (w.heap.size ≤ s_.2.2.2) ∧ (gb258 ≠ s_.2.2.2) ∧ (s_.2.2.2 ≠ gb258) ∧ (gb259 ≠ s_.2.2.2) ∧ (s_.2.2.2 ≠ gb259) ∧ (gb286 ≠ s_.2.2.2) ∧ (s_.2.2.2 ≠ gb286) ∧ (gb298 ≠ s_.2.2.2) ∧ (s_.2.2.2 ≠ gb298) ∧ (Below w.heap.size w w')) ?_ ?_
   rotate_left
   ·
    intro hCont
    refine two_ (i := 2) (j := 7) (Ni := some 34) (Nj := some 9) #[true, true, true, false, false, false, false, false, false, false] #[true, true, false, false, false, false, false, true, false, false] rfl rfl rfl rfl (two_of HT_.out (by kernel_rfl)) (by decide) (by decide) (fun K hK => ?_) (fun K hK => ?_)
    ·
     skip
     refine goes_ Try.func26 (by kernel_rfl) rfl #[.agg #[.int .i64 a1_0, .int .i64 a1_1]] (by rfl) rfl rfl (by (try simp only [lm]); first | done | rfl | (simp only [List.length_drop, List.length_take]; rfl)) ?_
     with_reducible refine (laws_toValue.calls a1_0 a1_1 t299 t300 _ A15.out).mono ?_
     rintro e w49 ⟨rfl, hb⟩
     refine ⟨_, rfl, ?_⟩
     replace HO263 := As.mk (Kd.R_below (by (with_reducible repeat (first | apply Kd.R_alloc | apply Kd.R_drewN | apply Kd.R_drew)); exact HO263.out) hb)
     replace HO266 := As.mk (Kd.R_below (by (with_reducible repeat (first | apply Kd.R_alloc | apply Kd.R_drewN | apply Kd.R_drew)); exact HO266.out) hb)
     replace HO269 := As.mk (Kd.R_below (by (with_reducible repeat (first | apply Kd.R_alloc | apply Kd.R_drewN | apply Kd.R_drew)); exact HO269.out) hb)
     replace HO276 := As.mk (Kd.R_below (by (with_reducible repeat (first | apply Kd.R_alloc | apply Kd.R_drewN | apply Kd.R_drew)); exact HO276.out) hb)
     replace HO279 := As.mk (Kd.R_below (by (with_reducible repeat (first | apply Kd.R_alloc | apply Kd.R_drewN | apply Kd.R_drew)); exact HO279.out) hb)
     replace HO282 := As.mk (Kd.R_below (by (with_reducible repeat (first | apply Kd.R_alloc | apply Kd.R_drewN | apply Kd.R_drew)); exact HO282.out) hb)
     replace HO289 := As.mk (Kd.R_below (by (with_reducible repeat (first | apply Kd.R_alloc | apply Kd.R_drewN | apply Kd.R_drew)); exact HO289.out) hb)
     replace HO292 := As.mk (Kd.R_below (by (with_reducible repeat (first | apply Kd.R_alloc | apply Kd.R_drewN | apply Kd.R_drew)); exact HO292.out) hb)
     replace HO295 := As.mk (Kd.R_below (by (with_reducible repeat (first | apply Kd.R_alloc | apply Kd.R_drewN | apply Kd.R_drew)); exact HO295.out) hb)
     replace BK258 := As.mk (blk_below (bx BK258.out) hb)
     replace BK259 := As.mk (blk_below (bx BK259.out) hb)
     replace BK286 := As.mk (blk_below (bx BK286.out) hb)
     replace BK298 := As.mk (blk_below (bx BK298.out) hb)
     replace HB := As.mk (below_step (be w) hb)
     (try clear hb)
     (try clear hb2)
     (try clear hk)
     (try clear hi)
     refine hK.out _ _ ⟨(blk_cell BK298.out 0).trans rfl, (blk_cell BK298.out 1).trans rfl, (blk_cell BK298.out 2).trans rfl, (blk_cell BK298.out 3).trans rfl, (blk_cell BK298.out 4).trans rfl, (blk_cell BK259.out 0).trans rfl, (blk_cell BK259.out 1).trans rfl⟩ (fun hHeld => ?_)
     clear hK K
     refine norm_ (a' := ?_) ?_ ?_
     rotate_left
     ·
      show Act.put _ (some 34) _ = _
      simp only [pk, i64_w, i32_w]
      rfl
     refine two_ (i := 3) (j := 7) (Ni := some 35) (Nj := some 9) #[true, true, true, true, false, false, false, false, false, false] #[true, true, true, false, false, false, false, true, false, false] rfl rfl rfl rfl (two_of HT_.out (by kernel_rfl)) (by decide) (by decide) (fun K hK => ?_) (fun K hK => ?_)
     ·
      skip
      refine goes_ Try.func19 (by kernel_rfl) rfl #[.agg #[.slice Ao40 t287.length co40, .slice Ao45 t290.length co45, .slice Ao46 t293.length co46, .int .i64 t296, .int .i64 t297], .agg #[.int .i64 t299, .int .i64 t300]] (by rfl) rfl rfl (by (try simp only [lm]); first | done | rfl | (simp only [List.length_drop, List.length_take]; rfl)) ?_
      with_reducible refine (impl_Looked.calls _ _ t287 _ _ t290 _ _ t293 t296 t297 t299 t300 t301 t304 t307 t310 t311 t312 _ ?side1 ?side2 ?side3 ?side4 ?side5 ?side6 A16.out).mono ?_
      (case side1 => repeat (first | exact (Kd.R_reads' HO289.out).2.2 | (with_reducible refine Kd.C_alloc ?_ _) | (with_reducible refine Kd.C_drewN ?_ _) | (with_reducible refine Kd.C_drew ?_)))
      (case side2 => exact (Kd.R_reads' HO289.out).2.1)
      (case side3 => repeat (first | exact (Kd.R_reads' HO292.out).2.2 | (with_reducible refine Kd.C_alloc ?_ _) | (with_reducible refine Kd.C_drewN ?_ _) | (with_reducible refine Kd.C_drew ?_)))
      (case side4 => exact (Kd.R_reads' HO292.out).2.1)
      (case side5 => repeat (first | exact (Kd.R_reads' HO295.out).2.2 | (with_reducible refine Kd.C_alloc ?_ _) | (with_reducible refine Kd.C_drewN ?_ _) | (with_reducible refine Kd.C_drew ?_)))
      (case side6 => exact (Kd.R_reads' HO295.out).2.1)
      rintro e w50 ⟨v302, v305, v308, rfl, ho0, ho1, ho2, hb⟩
      refine ⟨_, rfl, ?_⟩
      have HO303 := As.mk (Kd.R_lower (Kd.R_new' (Kd.R_new' (Kd.R_new' ho0 (Kd.R_lt (by (with_reducible repeat (first | apply Kd.R_alloc | apply Kd.R_drewN | apply Kd.R_drew)); exact HO263.out))) (Kd.R_lt (by (with_reducible repeat (first | apply Kd.R_alloc | apply Kd.R_drewN | apply Kd.R_drew)); exact HO276.out))) (Kd.R_lt (by (with_reducible repeat (first | apply Kd.R_alloc | apply Kd.R_drewN | apply Kd.R_drew)); exact HO289.out))) (below_size (be w)))
      replace HO263 := As.mk (Kd.R_elder' (by (with_reducible repeat (first | apply Kd.R_alloc | apply Kd.R_drewN | apply Kd.R_drew)); exact HO263.out) (Kd.R_base ho0) hb)
      replace HO276 := As.mk (Kd.R_elder' (by (with_reducible repeat (first | apply Kd.R_alloc | apply Kd.R_drewN | apply Kd.R_drew)); exact HO276.out) (Kd.R_base ho0) hb)
      replace HO289 := As.mk (Kd.R_elder' (by (with_reducible repeat (first | apply Kd.R_alloc | apply Kd.R_drewN | apply Kd.R_drew)); exact HO289.out) (Kd.R_base ho0) hb)
      have HO306 := As.mk (Kd.R_lower (Kd.R_new' (Kd.R_new' (Kd.R_new' (Kd.R_new' (Kd.R_new' (Kd.R_new' ho1 (Kd.R_lt (by (with_reducible repeat (first | apply Kd.R_alloc | apply Kd.R_drewN | apply Kd.R_drew)); exact HO266.out))) (Kd.R_lt (by (with_reducible repeat (first | apply Kd.R_alloc | apply Kd.R_drewN | apply Kd.R_drew)); exact HO269.out))) (Kd.R_lt (by (with_reducible repeat (first | apply Kd.R_alloc | apply Kd.R_drewN | apply Kd.R_drew)); exact HO279.out))) (Kd.R_lt (by (with_reducible repeat (first | apply Kd.R_alloc | apply Kd.R_drewN | apply Kd.R_drew)); exact HO282.out))) (Kd.R_lt (by (with_reducible repeat (first | apply Kd.R_alloc | apply Kd.R_drewN | apply Kd.R_drew)); exact HO292.out))) (Kd.R_lt (by (with_reducible repeat (first | apply Kd.R_alloc | apply Kd.R_drewN | apply Kd.R_drew)); exact HO295.out))) (below_size (be w)))
      have HO309 := As.mk (Kd.R_lower (Kd.R_new' (Kd.R_new' (Kd.R_new' (Kd.R_new' (Kd.R_new' (Kd.R_new' ho2 (Kd.R_lt (by (with_reducible repeat (first | apply Kd.R_alloc | apply Kd.R_drewN | apply Kd.R_drew)); exact HO266.out))) (Kd.R_lt (by (with_reducible repeat (first | apply Kd.R_alloc | apply Kd.R_drewN | apply Kd.R_drew)); exact HO269.out))) (Kd.R_lt (by (with_reducible repeat (first | apply Kd.R_alloc | apply Kd.R_drewN | apply Kd.R_drew)); exact HO279.out))) (Kd.R_lt (by (with_reducible repeat (first | apply Kd.R_alloc | apply Kd.R_drewN | apply Kd.R_drew)); exact HO282.out))) (Kd.R_lt (by (with_reducible repeat (first | apply Kd.R_alloc | apply Kd.R_drewN | apply Kd.R_drew)); exact HO292.out))) (Kd.R_lt (by (with_reducible repeat (first | apply Kd.R_alloc | apply Kd.R_drewN | apply Kd.R_drew)); exact HO295.out))) (below_size (be w)))
      replace HO266 := As.mk (Kd.R_mono (Kd.R_told (Kd.R_told (Kd.R_old (by (with_reducible repeat (first | apply Kd.R_alloc | apply Kd.R_drewN | apply Kd.R_drew)); exact HO266.out) hb) (Kd.R_base ho1)) (Kd.R_base ho2)) (fun _ h_ => h_.1))
      replace HO269 := As.mk (Kd.R_mono (Kd.R_told (Kd.R_told (Kd.R_old (by (with_reducible repeat (first | apply Kd.R_alloc | apply Kd.R_drewN | apply Kd.R_drew)); exact HO269.out) hb) (Kd.R_base ho1)) (Kd.R_base ho2)) (fun _ h_ => h_.1))
      replace HO279 := As.mk (Kd.R_mono (Kd.R_told (Kd.R_told (Kd.R_old (by (with_reducible repeat (first | apply Kd.R_alloc | apply Kd.R_drewN | apply Kd.R_drew)); exact HO279.out) hb) (Kd.R_base ho1)) (Kd.R_base ho2)) (fun _ h_ => h_.1))
      replace HO282 := As.mk (Kd.R_mono (Kd.R_told (Kd.R_told (Kd.R_old (by (with_reducible repeat (first | apply Kd.R_alloc | apply Kd.R_drewN | apply Kd.R_drew)); exact HO282.out) hb) (Kd.R_base ho1)) (Kd.R_base ho2)) (fun _ h_ => h_.1))
      replace HO292 := As.mk (Kd.R_mono (Kd.R_told (Kd.R_told (Kd.R_old (by (with_reducible repeat (first | apply Kd.R_alloc | apply Kd.R_drewN | apply Kd.R_drew)); exact HO292.out) hb) (Kd.R_base ho1)) (Kd.R_base ho2)) (fun _ h_ => h_.1))
      replace HO295 := As.mk (Kd.R_mono (Kd.R_told (Kd.R_told (Kd.R_old (by (with_reducible repeat (first | apply Kd.R_alloc | apply Kd.R_drewN | apply Kd.R_drew)); exact HO295.out) hb) (Kd.R_base ho1)) (Kd.R_base ho2)) (fun _ h_ => h_.1))
      replace BK258 := As.mk (blk_below (bx BK258.out) hb)
      replace BK259 := As.mk (blk_below (bx BK259.out) hb)
      replace BK286 := As.mk (blk_below (bx BK286.out) hb)
      replace BK298 := As.mk (blk_below (bx BK298.out) hb)
      replace HB := As.mk (below_step (be w) hb)
      (try clear hb)
      (try clear hb2)
      (try clear hk)
      (try clear hi)
      (try clear ho0)
      (try clear ho1)
      (try clear ho2)
      refine hK.out _ _ ⟨(blk_cell BK298.out 0).trans rfl, (blk_cell BK298.out 1).trans rfl, (blk_cell BK298.out 2).trans rfl, (blk_cell BK298.out 3).trans rfl, (blk_cell BK298.out 4).trans rfl, (blk_cell BK259.out 0).trans rfl, (blk_cell BK259.out 1).trans rfl⟩ (fun hHeld => ?_)
      clear hK K
      refine norm_ (a' := ?_) ?_ ?_
      rotate_left
      ·
       show Act.put _ (some 35) _ = _
       simp only [pk, i64_w, i32_w]
       rfl
      refine pure_ (i := 4) (N := some 31) (v := ?_) (a' := ?_) #[I, I, I, I, I, O, O, O, O, O] rfl rfl (any_of HT_.out (by kernel_rfl)) (fun _ _ _ h => h) (Or.inl ⟨by rfl, ?_⟩) ?_ ?_
      rotate_left
      ·
       intro w'
       go_simp
       with_reducible rfl
      rotate_left
      ·
       simp only [pk, i64_w, i32_w]
       rfl
      refine pure_ (i := 5) (N := some 36) (v := ?_) (a' := ?_) #[I, I, I, I, I, I, O, O, O, O] rfl rfl (any_of HT_.out (by kernel_rfl)) (fun _ _ _ h => h) (Or.inl ⟨by rfl, ?_⟩) ?_ ?_
      rotate_left
      ·
       intro w'
       go_simp
       with_reducible rfl
      rotate_left
      ·
       simp only [pk, i64_w, i32_w]
       rfl
      refine pure_ (i := 6) (N := some 37) (v := ?_) (a' := ?_) #[I, I, I, I, I, I, I, O, O, O] rfl rfl (any_of HT_.out (by kernel_rfl)) (fun _ _ _ h => h) (Or.inl ⟨by rfl, ?_⟩) ?_ ?_
      rotate_left
      ·
       intro w'
       go_simp
       with_reducible rfl
      rotate_left
      ·
       simp only [pk, i64_w, i32_w]
       rfl
      refine one_ (i := 7) (N := some 9) #[I, I, I, I, I, I, I, I, O, O] rfl rfl (one_of HT_.out (by kernel_rfl)) (by decide) (fun K hK => ?_)
      refine box_step ?hg (N := 9) ?hd (cs := #[.slice none 0 0, .slice none 0 0, .slice none 0 0, .int .i64 0, .int .i64 0]) (t := 34) ?hr ?_; (case hd => rfl); (case hg => rfl); (case hr => first | (go_simp; done) | (go_simp; rfl))
      intro gb313 hg w51 hbox hb
      replace HO263 := As.mk (Kd.R_below (by (with_reducible repeat (first | apply Kd.R_alloc | apply Kd.R_drewN | apply Kd.R_drew)); exact HO263.out) hb)
      replace HO266 := As.mk (Kd.R_below (by (with_reducible repeat (first | apply Kd.R_alloc | apply Kd.R_drewN | apply Kd.R_drew)); exact HO266.out) hb)
      replace HO269 := As.mk (Kd.R_below (by (with_reducible repeat (first | apply Kd.R_alloc | apply Kd.R_drewN | apply Kd.R_drew)); exact HO269.out) hb)
      replace HO276 := As.mk (Kd.R_below (by (with_reducible repeat (first | apply Kd.R_alloc | apply Kd.R_drewN | apply Kd.R_drew)); exact HO276.out) hb)
      replace HO279 := As.mk (Kd.R_below (by (with_reducible repeat (first | apply Kd.R_alloc | apply Kd.R_drewN | apply Kd.R_drew)); exact HO279.out) hb)
      replace HO282 := As.mk (Kd.R_below (by (with_reducible repeat (first | apply Kd.R_alloc | apply Kd.R_drewN | apply Kd.R_drew)); exact HO282.out) hb)
      replace HO289 := As.mk (Kd.R_below (by (with_reducible repeat (first | apply Kd.R_alloc | apply Kd.R_drewN | apply Kd.R_drew)); exact HO289.out) hb)
      replace HO292 := As.mk (Kd.R_below (by (with_reducible repeat (first | apply Kd.R_alloc | apply Kd.R_drewN | apply Kd.R_drew)); exact HO292.out) hb)
      replace HO295 := As.mk (Kd.R_below (by (with_reducible repeat (first | apply Kd.R_alloc | apply Kd.R_drewN | apply Kd.R_drew)); exact HO295.out) hb)
      replace HO303 := As.mk (Kd.R_below (by (with_reducible repeat (first | apply Kd.R_alloc | apply Kd.R_drewN | apply Kd.R_drew)); exact HO303.out) hb)
      replace HO306 := As.mk (Kd.R_below (by (with_reducible repeat (first | apply Kd.R_alloc | apply Kd.R_drewN | apply Kd.R_drew)); exact HO306.out) hb)
      replace HO309 := As.mk (Kd.R_below (by (with_reducible repeat (first | apply Kd.R_alloc | apply Kd.R_drewN | apply Kd.R_drew)); exact HO309.out) hb)
      have BK313 := As.mk (hbox)
      have GW313 := As.mk (gs w hg)
      have GE313 := As.mk (gs w hg)
      replace HB := As.mk (below_step (be w) hb)
      have NB258_313 := As.mk (nl hg (bx BK258.out))
      have NB313_258 := As.mk (ng hg (bx BK258.out))
      replace BK258 := As.mk (blk_below (bx BK258.out) hb)
      have NB259_313 := As.mk (nl hg (bx BK259.out))
      have NB313_259 := As.mk (ng hg (bx BK259.out))
      replace BK259 := As.mk (blk_below (bx BK259.out) hb)
      have NB286_313 := As.mk (nl hg (bx BK286.out))
      have NB313_286 := As.mk (ng hg (bx BK286.out))
      replace BK286 := As.mk (blk_below (bx BK286.out) hb)
      have NB298_313 := As.mk (nl hg (bx BK298.out))
      have NB313_298 := As.mk (ng hg (bx BK298.out))
      replace BK298 := As.mk (blk_below (bx BK298.out) hb)
      clear hb hbox hg
      refine hK.out _ _ ⟨(blk_cell BK298.out 0).trans rfl, (blk_cell BK298.out 1).trans rfl, (blk_cell BK298.out 2).trans rfl, (blk_cell BK298.out 3).trans rfl, (blk_cell BK298.out 4).trans rfl, (blk_cell BK259.out 0).trans rfl, (blk_cell BK259.out 1).trans rfl⟩ (fun hHeld => ?_)
      clear hK K
      refine norm_ (a' := ?_) ?_ ?_
      rotate_left
      ·
       show Act.put _ (some 9) _ = _
       simp only [pk, i64_w, i32_w]
       rfl
      exact norm_ (by simp only [putAll, Act.put, List.setIfInBounds_toArray, List.set_cons_zero, List.set_cons_succ]) (hCont (v302, v305, v308, gb313) _ ⟨hHeld, (by (with_reducible repeat (first | apply Kd.R_alloc | apply Kd.R_drewN | apply Kd.R_drew)); exact Kd.R_mono HO263.out (fun _ hk => ⟨hk.1.1, ⟨hk.1.2, hk.2⟩⟩)), (by (with_reducible repeat (first | apply Kd.R_alloc | apply Kd.R_drewN | apply Kd.R_drew)); exact Kd.R_mono HO266.out (fun _ hk => ⟨hk.1.1.1, ⟨hk.1.1.2.1, ⟨hk.1.1.2.2.1, ⟨hk.1.1.2.2.2.1, ⟨hk.1.1.2.2.2.2, ⟨hk.1.2, hk.2⟩⟩⟩⟩⟩⟩)), (by (with_reducible repeat (first | apply Kd.R_alloc | apply Kd.R_drewN | apply Kd.R_drew)); exact Kd.R_mono HO269.out (fun _ hk => ⟨hk.1.1.1, ⟨hk.1.1.2.1, ⟨hk.1.1.2.2.1, ⟨hk.1.1.2.2.2.1, ⟨hk.1.1.2.2.2.2, ⟨hk.1.2, hk.2⟩⟩⟩⟩⟩⟩)), (by (with_reducible repeat (first | apply Kd.R_alloc | apply Kd.R_drewN | apply Kd.R_drew)); exact Kd.R_mono HO276.out (fun _ hk => ⟨hk.1.1, ⟨hk.1.2, hk.2⟩⟩)), (by (with_reducible repeat (first | apply Kd.R_alloc | apply Kd.R_drewN | apply Kd.R_drew)); exact Kd.R_mono HO279.out (fun _ hk => ⟨hk.1.1.1, ⟨hk.1.1.2.1, ⟨hk.1.1.2.2.1, ⟨hk.1.1.2.2.2.1, ⟨hk.1.1.2.2.2.2, ⟨hk.1.2, hk.2⟩⟩⟩⟩⟩⟩)), (by (with_reducible repeat (first | apply Kd.R_alloc | apply Kd.R_drewN | apply Kd.R_drew)); exact Kd.R_mono HO282.out (fun _ hk => ⟨hk.1.1.1, ⟨hk.1.1.2.1, ⟨hk.1.1.2.2.1, ⟨hk.1.1.2.2.2.1, ⟨hk.1.1.2.2.2.2, ⟨hk.1.2, hk.2⟩⟩⟩⟩⟩⟩)), (by (with_reducible repeat (first | apply Kd.R_alloc | apply Kd.R_drewN | apply Kd.R_drew)); exact Kd.R_mono HO289.out (fun _ hk => ⟨hk.1.1, ⟨hk.1.2, hk.2⟩⟩)), (by (with_reducible repeat (first | apply Kd.R_alloc | apply Kd.R_drewN | apply Kd.R_drew)); exact Kd.R_mono HO292.out (fun _ hk => ⟨hk.1.1.1, ⟨hk.1.1.2.1, ⟨hk.1.1.2.2.1, ⟨hk.1.1.2.2.2.1, ⟨hk.1.1.2.2.2.2, ⟨hk.1.2, hk.2⟩⟩⟩⟩⟩⟩)), (by (with_reducible repeat (first | apply Kd.R_alloc | apply Kd.R_drewN | apply Kd.R_drew)); exact Kd.R_mono HO295.out (fun _ hk => ⟨hk.1.1.1, ⟨hk.1.1.2.1, ⟨hk.1.1.2.2.1, ⟨hk.1.1.2.2.2.1, ⟨hk.1.1.2.2.2.2, ⟨hk.1.2, hk.2⟩⟩⟩⟩⟩⟩)), (by (with_reducible repeat (first | apply Kd.R_alloc | apply Kd.R_drewN | apply Kd.R_drew)); exact Kd.R_mono HO303.out (fun _ hk => ⟨hk.1.1.2, ⟨hk.1.2, hk.2⟩⟩)), (by (with_reducible repeat (first | apply Kd.R_alloc | apply Kd.R_drewN | apply Kd.R_drew)); exact Kd.R_mono HO306.out (fun _ hk => ⟨hk.1.1.1.1.1.2, ⟨hk.1.1.1.1.2, ⟨hk.1.1.1.2, ⟨hk.1.1.2, ⟨hk.1.2, ⟨hk.2, hk.1.1.1.1.1.1⟩⟩⟩⟩⟩⟩)), (by (with_reducible repeat (first | apply Kd.R_alloc | apply Kd.R_drewN | apply Kd.R_drew)); exact Kd.R_mono HO309.out (fun _ hk => ⟨hk.1.1.1.1.1.2, ⟨hk.1.1.1.1.2, ⟨hk.1.1.1.2, ⟨hk.1.1.2, ⟨hk.1.2, ⟨hk.2, hk.1.1.1.1.1.1⟩⟩⟩⟩⟩⟩)), (bx BK258.out), (bx BK259.out), (bx BK286.out), (bx BK298.out), (bx BK313.out), GW313.out, GE313.out, NB258_313.out, NB313_258.out, NB259_313.out, NB313_259.out, NB286_313.out, NB313_286.out, NB298_313.out, NB313_298.out, (be w)⟩)
     ·
      skip
      refine box_step ?hg (N := 9) ?hd (cs := #[.slice none 0 0, .slice none 0 0, .slice none 0 0, .int .i64 0, .int .i64 0]) (t := 34) ?hr ?_; (case hd => rfl); (case hg => rfl); (case hr => first | (go_simp; done) | (go_simp; rfl))
      intro gb313 hg w50 hbox hb
      replace HO263 := As.mk (Kd.R_below (by (with_reducible repeat (first | apply Kd.R_alloc | apply Kd.R_drewN | apply Kd.R_drew)); exact HO263.out) hb)
      replace HO266 := As.mk (Kd.R_below (by (with_reducible repeat (first | apply Kd.R_alloc | apply Kd.R_drewN | apply Kd.R_drew)); exact HO266.out) hb)
      replace HO269 := As.mk (Kd.R_below (by (with_reducible repeat (first | apply Kd.R_alloc | apply Kd.R_drewN | apply Kd.R_drew)); exact HO269.out) hb)
      replace HO276 := As.mk (Kd.R_below (by (with_reducible repeat (first | apply Kd.R_alloc | apply Kd.R_drewN | apply Kd.R_drew)); exact HO276.out) hb)
      replace HO279 := As.mk (Kd.R_below (by (with_reducible repeat (first | apply Kd.R_alloc | apply Kd.R_drewN | apply Kd.R_drew)); exact HO279.out) hb)
      replace HO282 := As.mk (Kd.R_below (by (with_reducible repeat (first | apply Kd.R_alloc | apply Kd.R_drewN | apply Kd.R_drew)); exact HO282.out) hb)
      replace HO289 := As.mk (Kd.R_below (by (with_reducible repeat (first | apply Kd.R_alloc | apply Kd.R_drewN | apply Kd.R_drew)); exact HO289.out) hb)
      replace HO292 := As.mk (Kd.R_below (by (with_reducible repeat (first | apply Kd.R_alloc | apply Kd.R_drewN | apply Kd.R_drew)); exact HO292.out) hb)
      replace HO295 := As.mk (Kd.R_below (by (with_reducible repeat (first | apply Kd.R_alloc | apply Kd.R_drewN | apply Kd.R_drew)); exact HO295.out) hb)
      have BK313 := As.mk (hbox)
      have GW313 := As.mk (gs w hg)
      have GE313 := As.mk (gs w hg)
      replace HB := As.mk (below_step (be w) hb)
      have NB258_313 := As.mk (nl hg (bx BK258.out))
      have NB313_258 := As.mk (ng hg (bx BK258.out))
      replace BK258 := As.mk (blk_below (bx BK258.out) hb)
      have NB259_313 := As.mk (nl hg (bx BK259.out))
      have NB313_259 := As.mk (ng hg (bx BK259.out))
      replace BK259 := As.mk (blk_below (bx BK259.out) hb)
      have NB286_313 := As.mk (nl hg (bx BK286.out))
      have NB313_286 := As.mk (ng hg (bx BK286.out))
      replace BK286 := As.mk (blk_below (bx BK286.out) hb)
      have NB298_313 := As.mk (nl hg (bx BK298.out))
      have NB313_298 := As.mk (ng hg (bx BK298.out))
      replace BK298 := As.mk (blk_below (bx BK298.out) hb)
      clear hb hbox hg
      refine hK.out _ _ ⟨(blk_cell BK298.out 0).trans rfl, (blk_cell BK298.out 1).trans rfl, (blk_cell BK298.out 2).trans rfl, (blk_cell BK298.out 3).trans rfl, (blk_cell BK298.out 4).trans rfl, (blk_cell BK259.out 0).trans rfl, (blk_cell BK259.out 1).trans rfl⟩ (fun hHeld => ?_)
      clear hK K
      refine norm_ (a' := ?_) ?_ ?_
      rotate_left
      ·
       show Act.put _ (some 9) _ = _
       simp only [pk, i64_w, i32_w]
       rfl
      refine one_ (i := 3) (N := some 35) #[I, I, I, I, O, O, O, I, O, O] rfl rfl (one_of HT_.out (by kernel_rfl)) (by decide) (fun K hK => ?_)
      refine goes_ Try.func19 (by kernel_rfl) rfl #[.agg #[.slice Ao40 t287.length co40, .slice Ao45 t290.length co45, .slice Ao46 t293.length co46, .int .i64 t296, .int .i64 t297], .agg #[.int .i64 t299, .int .i64 t300]] (by rfl) rfl rfl (by (try simp only [lm]); first | done | rfl | (simp only [List.length_drop, List.length_take]; rfl)) ?_
      with_reducible refine (impl_Looked.calls _ _ t287 _ _ t290 _ _ t293 t296 t297 t299 t300 t301 t304 t307 t310 t311 t312 _ ?side1 ?side2 ?side3 ?side4 ?side5 ?side6 A16.out).mono ?_
      (case side1 => repeat (first | exact (Kd.R_reads' HO289.out).2.2 | (with_reducible refine Kd.C_alloc ?_ _) | (with_reducible refine Kd.C_drewN ?_ _) | (with_reducible refine Kd.C_drew ?_)))
      (case side2 => exact (Kd.R_reads' HO289.out).2.1)
      (case side3 => repeat (first | exact (Kd.R_reads' HO292.out).2.2 | (with_reducible refine Kd.C_alloc ?_ _) | (with_reducible refine Kd.C_drewN ?_ _) | (with_reducible refine Kd.C_drew ?_)))
      (case side4 => exact (Kd.R_reads' HO292.out).2.1)
      (case side5 => repeat (first | exact (Kd.R_reads' HO295.out).2.2 | (with_reducible refine Kd.C_alloc ?_ _) | (with_reducible refine Kd.C_drewN ?_ _) | (with_reducible refine Kd.C_drew ?_)))
      (case side6 => exact (Kd.R_reads' HO295.out).2.1)
      rintro e w51 ⟨v302, v305, v308, rfl, ho0, ho1, ho2, hb⟩
      refine ⟨_, rfl, ?_⟩
      have HO303 := As.mk (Kd.R_lower (Kd.R_new' (Kd.R_new' (Kd.R_new' ho0 (Kd.R_lt (by (with_reducible repeat (first | apply Kd.R_alloc | apply Kd.R_drewN | apply Kd.R_drew)); exact HO263.out))) (Kd.R_lt (by (with_reducible repeat (first | apply Kd.R_alloc | apply Kd.R_drewN | apply Kd.R_drew)); exact HO276.out))) (Kd.R_lt (by (with_reducible repeat (first | apply Kd.R_alloc | apply Kd.R_drewN | apply Kd.R_drew)); exact HO289.out))) (below_size (be w)))
      replace HO263 := As.mk (Kd.R_elder' (by (with_reducible repeat (first | apply Kd.R_alloc | apply Kd.R_drewN | apply Kd.R_drew)); exact HO263.out) (Kd.R_base ho0) hb)
      replace HO276 := As.mk (Kd.R_elder' (by (with_reducible repeat (first | apply Kd.R_alloc | apply Kd.R_drewN | apply Kd.R_drew)); exact HO276.out) (Kd.R_base ho0) hb)
      replace HO289 := As.mk (Kd.R_elder' (by (with_reducible repeat (first | apply Kd.R_alloc | apply Kd.R_drewN | apply Kd.R_drew)); exact HO289.out) (Kd.R_base ho0) hb)
      have HO306 := As.mk (Kd.R_lower (Kd.R_new' (Kd.R_new' (Kd.R_new' (Kd.R_new' (Kd.R_new' (Kd.R_new' ho1 (Kd.R_lt (by (with_reducible repeat (first | apply Kd.R_alloc | apply Kd.R_drewN | apply Kd.R_drew)); exact HO266.out))) (Kd.R_lt (by (with_reducible repeat (first | apply Kd.R_alloc | apply Kd.R_drewN | apply Kd.R_drew)); exact HO269.out))) (Kd.R_lt (by (with_reducible repeat (first | apply Kd.R_alloc | apply Kd.R_drewN | apply Kd.R_drew)); exact HO279.out))) (Kd.R_lt (by (with_reducible repeat (first | apply Kd.R_alloc | apply Kd.R_drewN | apply Kd.R_drew)); exact HO282.out))) (Kd.R_lt (by (with_reducible repeat (first | apply Kd.R_alloc | apply Kd.R_drewN | apply Kd.R_drew)); exact HO292.out))) (Kd.R_lt (by (with_reducible repeat (first | apply Kd.R_alloc | apply Kd.R_drewN | apply Kd.R_drew)); exact HO295.out))) (below_size (be w)))
      have HO309 := As.mk (Kd.R_lower (Kd.R_new' (Kd.R_new' (Kd.R_new' (Kd.R_new' (Kd.R_new' (Kd.R_new' ho2 (Kd.R_lt (by (with_reducible repeat (first | apply Kd.R_alloc | apply Kd.R_drewN | apply Kd.R_drew)); exact HO266.out))) (Kd.R_lt (by (with_reducible repeat (first | apply Kd.R_alloc | apply Kd.R_drewN | apply Kd.R_drew)); exact HO269.out))) (Kd.R_lt (by (with_reducible repeat (first | apply Kd.R_alloc | apply Kd.R_drewN | apply Kd.R_drew)); exact HO279.out))) (Kd.R_lt (by (with_reducible repeat (first | apply Kd.R_alloc | apply Kd.R_drewN | apply Kd.R_drew)); exact HO282.out))) (Kd.R_lt (by (with_reducible repeat (first | apply Kd.R_alloc | apply Kd.R_drewN | apply Kd.R_drew)); exact HO292.out))) (Kd.R_lt (by (with_reducible repeat (first | apply Kd.R_alloc | apply Kd.R_drewN | apply Kd.R_drew)); exact HO295.out))) (below_size (be w)))
      replace HO266 := As.mk (Kd.R_mono (Kd.R_told (Kd.R_told (Kd.R_old (by (with_reducible repeat (first | apply Kd.R_alloc | apply Kd.R_drewN | apply Kd.R_drew)); exact HO266.out) hb) (Kd.R_base ho1)) (Kd.R_base ho2)) (fun _ h_ => h_.1))
      replace HO269 := As.mk (Kd.R_mono (Kd.R_told (Kd.R_told (Kd.R_old (by (with_reducible repeat (first | apply Kd.R_alloc | apply Kd.R_drewN | apply Kd.R_drew)); exact HO269.out) hb) (Kd.R_base ho1)) (Kd.R_base ho2)) (fun _ h_ => h_.1))
      replace HO279 := As.mk (Kd.R_mono (Kd.R_told (Kd.R_told (Kd.R_old (by (with_reducible repeat (first | apply Kd.R_alloc | apply Kd.R_drewN | apply Kd.R_drew)); exact HO279.out) hb) (Kd.R_base ho1)) (Kd.R_base ho2)) (fun _ h_ => h_.1))
      replace HO282 := As.mk (Kd.R_mono (Kd.R_told (Kd.R_told (Kd.R_old (by (with_reducible repeat (first | apply Kd.R_alloc | apply Kd.R_drewN | apply Kd.R_drew)); exact HO282.out) hb) (Kd.R_base ho1)) (Kd.R_base ho2)) (fun _ h_ => h_.1))
      replace HO292 := As.mk (Kd.R_mono (Kd.R_told (Kd.R_told (Kd.R_old (by (with_reducible repeat (first | apply Kd.R_alloc | apply Kd.R_drewN | apply Kd.R_drew)); exact HO292.out) hb) (Kd.R_base ho1)) (Kd.R_base ho2)) (fun _ h_ => h_.1))
      replace HO295 := As.mk (Kd.R_mono (Kd.R_told (Kd.R_told (Kd.R_old (by (with_reducible repeat (first | apply Kd.R_alloc | apply Kd.R_drewN | apply Kd.R_drew)); exact HO295.out) hb) (Kd.R_base ho1)) (Kd.R_base ho2)) (fun _ h_ => h_.1))
      replace BK258 := As.mk (blk_below (bx BK258.out) hb)
      replace BK259 := As.mk (blk_below (bx BK259.out) hb)
      replace BK286 := As.mk (blk_below (bx BK286.out) hb)
      replace BK298 := As.mk (blk_below (bx BK298.out) hb)
      replace BK313 := As.mk (blk_below (bx BK313.out) hb)
      replace HB := As.mk (below_step (be w) hb)
      (try clear hb)
      (try clear hb2)
      (try clear hk)
      (try clear hi)
      (try clear ho0)
      (try clear ho1)
      (try clear ho2)
      refine hK.out _ _ ⟨(blk_cell BK298.out 0).trans rfl, (blk_cell BK298.out 1).trans rfl, (blk_cell BK298.out 2).trans rfl, (blk_cell BK298.out 3).trans rfl, (blk_cell BK298.out 4).trans rfl, (blk_cell BK259.out 0).trans rfl, (blk_cell BK259.out 1).trans rfl⟩ (fun hHeld => ?_)
      clear hK K
      refine norm_ (a' := ?_) ?_ ?_
      rotate_left
      ·
       show Act.put _ (some 35) _ = _
       simp only [pk, i64_w, i32_w]
       rfl
      refine pure_ (i := 4) (N := some 31) (v := ?_) (a' := ?_) #[I, I, I, I, I, O, O, I, O, O] rfl rfl (any_of HT_.out (by kernel_rfl)) (fun _ _ _ h => h) (Or.inl ⟨by rfl, ?_⟩) ?_ ?_
      rotate_left
      ·
       intro w'
       go_simp
       with_reducible rfl
      rotate_left
      ·
       simp only [pk, i64_w, i32_w]
       rfl
      refine pure_ (i := 5) (N := some 36) (v := ?_) (a' := ?_) #[I, I, I, I, I, I, O, I, O, O] rfl rfl (any_of HT_.out (by kernel_rfl)) (fun _ _ _ h => h) (Or.inl ⟨by rfl, ?_⟩) ?_ ?_
      rotate_left
      ·
       intro w'
       go_simp
       with_reducible rfl
      rotate_left
      ·
       simp only [pk, i64_w, i32_w]
       rfl
      refine pure_ (i := 6) (N := some 37) (v := ?_) (a' := ?_) #[I, I, I, I, I, I, I, I, O, O] rfl rfl (any_of HT_.out (by kernel_rfl)) (fun _ _ _ h => h) (Or.inl ⟨by rfl, ?_⟩) ?_ ?_
      rotate_left
      ·
       intro w'
       go_simp
       with_reducible rfl
      rotate_left
      ·
       simp only [pk, i64_w, i32_w]
       rfl
      exact norm_ (by simp only [putAll, Act.put, List.setIfInBounds_toArray, List.set_cons_zero, List.set_cons_succ]) (hCont (v302, v305, v308, gb313) _ ⟨hHeld, (by (with_reducible repeat (first | apply Kd.R_alloc | apply Kd.R_drewN | apply Kd.R_drew)); exact Kd.R_mono HO263.out (fun _ hk => ⟨hk.1.1, ⟨hk.1.2, hk.2⟩⟩)), (by (with_reducible repeat (first | apply Kd.R_alloc | apply Kd.R_drewN | apply Kd.R_drew)); exact Kd.R_mono HO266.out (fun _ hk => ⟨hk.1.1.1, ⟨hk.1.1.2.1, ⟨hk.1.1.2.2.1, ⟨hk.1.1.2.2.2.1, ⟨hk.1.1.2.2.2.2, ⟨hk.1.2, hk.2⟩⟩⟩⟩⟩⟩)), (by (with_reducible repeat (first | apply Kd.R_alloc | apply Kd.R_drewN | apply Kd.R_drew)); exact Kd.R_mono HO269.out (fun _ hk => ⟨hk.1.1.1, ⟨hk.1.1.2.1, ⟨hk.1.1.2.2.1, ⟨hk.1.1.2.2.2.1, ⟨hk.1.1.2.2.2.2, ⟨hk.1.2, hk.2⟩⟩⟩⟩⟩⟩)), (by (with_reducible repeat (first | apply Kd.R_alloc | apply Kd.R_drewN | apply Kd.R_drew)); exact Kd.R_mono HO276.out (fun _ hk => ⟨hk.1.1, ⟨hk.1.2, hk.2⟩⟩)), (by (with_reducible repeat (first | apply Kd.R_alloc | apply Kd.R_drewN | apply Kd.R_drew)); exact Kd.R_mono HO279.out (fun _ hk => ⟨hk.1.1.1, ⟨hk.1.1.2.1, ⟨hk.1.1.2.2.1, ⟨hk.1.1.2.2.2.1, ⟨hk.1.1.2.2.2.2, ⟨hk.1.2, hk.2⟩⟩⟩⟩⟩⟩)), (by (with_reducible repeat (first | apply Kd.R_alloc | apply Kd.R_drewN | apply Kd.R_drew)); exact Kd.R_mono HO282.out (fun _ hk => ⟨hk.1.1.1, ⟨hk.1.1.2.1, ⟨hk.1.1.2.2.1, ⟨hk.1.1.2.2.2.1, ⟨hk.1.1.2.2.2.2, ⟨hk.1.2, hk.2⟩⟩⟩⟩⟩⟩)), (by (with_reducible repeat (first | apply Kd.R_alloc | apply Kd.R_drewN | apply Kd.R_drew)); exact Kd.R_mono HO289.out (fun _ hk => ⟨hk.1.1, ⟨hk.1.2, hk.2⟩⟩)), (by (with_reducible repeat (first | apply Kd.R_alloc | apply Kd.R_drewN | apply Kd.R_drew)); exact Kd.R_mono HO292.out (fun _ hk => ⟨hk.1.1.1, ⟨hk.1.1.2.1, ⟨hk.1.1.2.2.1, ⟨hk.1.1.2.2.2.1, ⟨hk.1.1.2.2.2.2, ⟨hk.1.2, hk.2⟩⟩⟩⟩⟩⟩)), (by (with_reducible repeat (first | apply Kd.R_alloc | apply Kd.R_drewN | apply Kd.R_drew)); exact Kd.R_mono HO295.out (fun _ hk => ⟨hk.1.1.1, ⟨hk.1.1.2.1, ⟨hk.1.1.2.2.1, ⟨hk.1.1.2.2.2.1, ⟨hk.1.1.2.2.2.2, ⟨hk.1.2, hk.2⟩⟩⟩⟩⟩⟩)), (by (with_reducible repeat (first | apply Kd.R_alloc | apply Kd.R_drewN | apply Kd.R_drew)); exact Kd.R_mono HO303.out (fun _ hk => ⟨hk.1.1.2, ⟨hk.1.2, hk.2⟩⟩)), (by (with_reducible repeat (first | apply Kd.R_alloc | apply Kd.R_drewN | apply Kd.R_drew)); exact Kd.R_mono HO306.out (fun _ hk => ⟨hk.1.1.1.1.1.2, ⟨hk.1.1.1.1.2, ⟨hk.1.1.1.2, ⟨hk.1.1.2, ⟨hk.1.2, ⟨hk.2, hk.1.1.1.1.1.1⟩⟩⟩⟩⟩⟩)), (by (with_reducible repeat (first | apply Kd.R_alloc | apply Kd.R_drewN | apply Kd.R_drew)); exact Kd.R_mono HO309.out (fun _ hk => ⟨hk.1.1.1.1.1.2, ⟨hk.1.1.1.1.2, ⟨hk.1.1.1.2, ⟨hk.1.1.2, ⟨hk.1.2, ⟨hk.2, hk.1.1.1.1.1.1⟩⟩⟩⟩⟩⟩)), (bx BK258.out), (bx BK259.out), (bx BK286.out), (bx BK298.out), (bx BK313.out), GW313.out, GE313.out, NB258_313.out, NB313_258.out, NB259_313.out, NB313_259.out, NB286_313.out, NB313_286.out, NB298_313.out, NB313_298.out, (be w)⟩)
    ·
     skip
     refine box_step ?hg (N := 9) ?hd (cs := #[.slice none 0 0, .slice none 0 0, .slice none 0 0, .int .i64 0, .int .i64 0]) (t := 34) ?hr ?_; (case hd => rfl); (case hg => rfl); (case hr => first | (go_simp; done) | (go_simp; rfl))
     intro gb313 hg w49 hbox hb
     replace HO263 := As.mk (Kd.R_below (by (with_reducible repeat (first | apply Kd.R_alloc | apply Kd.R_drewN | apply Kd.R_drew)); exact HO263.out) hb)
     replace HO266 := As.mk (Kd.R_below (by (with_reducible repeat (first | apply Kd.R_alloc | apply Kd.R_drewN | apply Kd.R_drew)); exact HO266.out) hb)
     replace HO269 := As.mk (Kd.R_below (by (with_reducible repeat (first | apply Kd.R_alloc | apply Kd.R_drewN | apply Kd.R_drew)); exact HO269.out) hb)
     replace HO276 := As.mk (Kd.R_below (by (with_reducible repeat (first | apply Kd.R_alloc | apply Kd.R_drewN | apply Kd.R_drew)); exact HO276.out) hb)
     replace HO279 := As.mk (Kd.R_below (by (with_reducible repeat (first | apply Kd.R_alloc | apply Kd.R_drewN | apply Kd.R_drew)); exact HO279.out) hb)
     replace HO282 := As.mk (Kd.R_below (by (with_reducible repeat (first | apply Kd.R_alloc | apply Kd.R_drewN | apply Kd.R_drew)); exact HO282.out) hb)
     replace HO289 := As.mk (Kd.R_below (by (with_reducible repeat (first | apply Kd.R_alloc | apply Kd.R_drewN | apply Kd.R_drew)); exact HO289.out) hb)
     replace HO292 := As.mk (Kd.R_below (by (with_reducible repeat (first | apply Kd.R_alloc | apply Kd.R_drewN | apply Kd.R_drew)); exact HO292.out) hb)
     replace HO295 := As.mk (Kd.R_below (by (with_reducible repeat (first | apply Kd.R_alloc | apply Kd.R_drewN | apply Kd.R_drew)); exact HO295.out) hb)
     have BK313 := As.mk (hbox)
     have GW313 := As.mk (gs w hg)
     have GE313 := As.mk (gs w hg)
     replace HB := As.mk (below_step (be w) hb)
     have NB258_313 := As.mk (nl hg (bx BK258.out))
     have NB313_258 := As.mk (ng hg (bx BK258.out))
     replace BK258 := As.mk (blk_below (bx BK258.out) hb)
     have NB259_313 := As.mk (nl hg (bx BK259.out))
     have NB313_259 := As.mk (ng hg (bx BK259.out))
     replace BK259 := As.mk (blk_below (bx BK259.out) hb)
     have NB286_313 := As.mk (nl hg (bx BK286.out))
     have NB313_286 := As.mk (ng hg (bx BK286.out))
     replace BK286 := As.mk (blk_below (bx BK286.out) hb)
     have NB298_313 := As.mk (nl hg (bx BK298.out))
     have NB313_298 := As.mk (ng hg (bx BK298.out))
     replace BK298 := As.mk (blk_below (bx BK298.out) hb)
     clear hb hbox hg
     refine hK.out _ _ ⟨(blk_cell BK298.out 0).trans rfl, (blk_cell BK298.out 1).trans rfl, (blk_cell BK298.out 2).trans rfl, (blk_cell BK298.out 3).trans rfl, (blk_cell BK298.out 4).trans rfl, (blk_cell BK259.out 0).trans rfl, (blk_cell BK259.out 1).trans rfl⟩ (fun hHeld => ?_)
     clear hK K
     refine norm_ (a' := ?_) ?_ ?_
     rotate_left
     ·
      show Act.put _ (some 9) _ = _
      simp only [pk, i64_w, i32_w]
      rfl
     refine one_ (i := 2) (N := some 34) #[I, I, I, O, O, O, O, I, O, O] rfl rfl (one_of HT_.out (by kernel_rfl)) (by decide) (fun K hK => ?_)
     refine goes_ Try.func26 (by kernel_rfl) rfl #[.agg #[.int .i64 a1_0, .int .i64 a1_1]] (by rfl) rfl rfl (by (try simp only [lm]); first | done | rfl | (simp only [List.length_drop, List.length_take]; rfl)) ?_
     with_reducible refine (laws_toValue.calls a1_0 a1_1 t299 t300 _ A15.out).mono ?_
     rintro e w50 ⟨rfl, hb⟩
     refine ⟨_, rfl, ?_⟩
     replace HO263 := As.mk (Kd.R_below (by (with_reducible repeat (first | apply Kd.R_alloc | apply Kd.R_drewN | apply Kd.R_drew)); exact HO263.out) hb)
     replace HO266 := As.mk (Kd.R_below (by (with_reducible repeat (first | apply Kd.R_alloc | apply Kd.R_drewN | apply Kd.R_drew)); exact HO266.out) hb)
     replace HO269 := As.mk (Kd.R_below (by (with_reducible repeat (first | apply Kd.R_alloc | apply Kd.R_drewN | apply Kd.R_drew)); exact HO269.out) hb)
     replace HO276 := As.mk (Kd.R_below (by (with_reducible repeat (first | apply Kd.R_alloc | apply Kd.R_drewN | apply Kd.R_drew)); exact HO276.out) hb)
     replace HO279 := As.mk (Kd.R_below (by (with_reducible repeat (first | apply Kd.R_alloc | apply Kd.R_drewN | apply Kd.R_drew)); exact HO279.out) hb)
     replace HO282 := As.mk (Kd.R_below (by (with_reducible repeat (first | apply Kd.R_alloc | apply Kd.R_drewN | apply Kd.R_drew)); exact HO282.out) hb)
     replace HO289 := As.mk (Kd.R_below (by (with_reducible repeat (first | apply Kd.R_alloc | apply Kd.R_drewN | apply Kd.R_drew)); exact HO289.out) hb)
     replace HO292 := As.mk (Kd.R_below (by (with_reducible repeat (first | apply Kd.R_alloc | apply Kd.R_drewN | apply Kd.R_drew)); exact HO292.out) hb)
     replace HO295 := As.mk (Kd.R_below (by (with_reducible repeat (first | apply Kd.R_alloc | apply Kd.R_drewN | apply Kd.R_drew)); exact HO295.out) hb)
     replace BK258 := As.mk (blk_below (bx BK258.out) hb)
     replace BK259 := As.mk (blk_below (bx BK259.out) hb)
     replace BK286 := As.mk (blk_below (bx BK286.out) hb)
     replace BK298 := As.mk (blk_below (bx BK298.out) hb)
     replace BK313 := As.mk (blk_below (bx BK313.out) hb)
     replace HB := As.mk (below_step (be w) hb)
     (try clear hb)
     (try clear hb2)
     (try clear hk)
     (try clear hi)
     refine hK.out _ _ ⟨(blk_cell BK298.out 0).trans rfl, (blk_cell BK298.out 1).trans rfl, (blk_cell BK298.out 2).trans rfl, (blk_cell BK298.out 3).trans rfl, (blk_cell BK298.out 4).trans rfl, (blk_cell BK259.out 0).trans rfl, (blk_cell BK259.out 1).trans rfl⟩ (fun hHeld => ?_)
     clear hK K
     refine norm_ (a' := ?_) ?_ ?_
     rotate_left
     ·
      show Act.put _ (some 34) _ = _
      simp only [pk, i64_w, i32_w]
      rfl
     refine one_ (i := 3) (N := some 35) #[I, I, I, I, O, O, O, I, O, O] rfl rfl (one_of HT_.out (by kernel_rfl)) (by decide) (fun K hK => ?_)
     refine goes_ Try.func19 (by kernel_rfl) rfl #[.agg #[.slice Ao40 t287.length co40, .slice Ao45 t290.length co45, .slice Ao46 t293.length co46, .int .i64 t296, .int .i64 t297], .agg #[.int .i64 t299, .int .i64 t300]] (by rfl) rfl rfl (by (try simp only [lm]); first | done | rfl | (simp only [List.length_drop, List.length_take]; rfl)) ?_
     with_reducible refine (impl_Looked.calls _ _ t287 _ _ t290 _ _ t293 t296 t297 t299 t300 t301 t304 t307 t310 t311 t312 _ ?side1 ?side2 ?side3 ?side4 ?side5 ?side6 A16.out).mono ?_
     (case side1 => repeat (first | exact (Kd.R_reads' HO289.out).2.2 | (with_reducible refine Kd.C_alloc ?_ _) | (with_reducible refine Kd.C_drewN ?_ _) | (with_reducible refine Kd.C_drew ?_)))
     (case side2 => exact (Kd.R_reads' HO289.out).2.1)
     (case side3 => repeat (first | exact (Kd.R_reads' HO292.out).2.2 | (with_reducible refine Kd.C_alloc ?_ _) | (with_reducible refine Kd.C_drewN ?_ _) | (with_reducible refine Kd.C_drew ?_)))
     (case side4 => exact (Kd.R_reads' HO292.out).2.1)
     (case side5 => repeat (first | exact (Kd.R_reads' HO295.out).2.2 | (with_reducible refine Kd.C_alloc ?_ _) | (with_reducible refine Kd.C_drewN ?_ _) | (with_reducible refine Kd.C_drew ?_)))
     (case side6 => exact (Kd.R_reads' HO295.out).2.1)
     rintro e w51 ⟨v302, v305, v308, rfl, ho0, ho1, ho2, hb⟩
     refine ⟨_, rfl, ?_⟩
     have HO303 := As.mk (Kd.R_lower (Kd.R_new' (Kd.R_new' (Kd.R_new' ho0 (Kd.R_lt (by (with_reducible repeat (first | apply Kd.R_alloc | apply Kd.R_drewN | apply Kd.R_drew)); exact HO263.out))) (Kd.R_lt (by (with_reducible repeat (first | apply Kd.R_alloc | apply Kd.R_drewN | apply Kd.R_drew)); exact HO276.out))) (Kd.R_lt (by (with_reducible repeat (first | apply Kd.R_alloc | apply Kd.R_drewN | apply Kd.R_drew)); exact HO289.out))) (below_size (be w)))
     replace HO263 := As.mk (Kd.R_elder' (by (with_reducible repeat (first | apply Kd.R_alloc | apply Kd.R_drewN | apply Kd.R_drew)); exact HO263.out) (Kd.R_base ho0) hb)
     replace HO276 := As.mk (Kd.R_elder' (by (with_reducible repeat (first | apply Kd.R_alloc | apply Kd.R_drewN | apply Kd.R_drew)); exact HO276.out) (Kd.R_base ho0) hb)
     replace HO289 := As.mk (Kd.R_elder' (by (with_reducible repeat (first | apply Kd.R_alloc | apply Kd.R_drewN | apply Kd.R_drew)); exact HO289.out) (Kd.R_base ho0) hb)
     have HO306 := As.mk (Kd.R_lower (Kd.R_new' (Kd.R_new' (Kd.R_new' (Kd.R_new' (Kd.R_new' (Kd.R_new' ho1 (Kd.R_lt (by (with_reducible repeat (first | apply Kd.R_alloc | apply Kd.R_drewN | apply Kd.R_drew)); exact HO266.out))) (Kd.R_lt (by (with_reducible repeat (first | apply Kd.R_alloc | apply Kd.R_drewN | apply Kd.R_drew)); exact HO269.out))) (Kd.R_lt (by (with_reducible repeat (first | apply Kd.R_alloc | apply Kd.R_drewN | apply Kd.R_drew)); exact HO279.out))) (Kd.R_lt (by (with_reducible repeat (first | apply Kd.R_alloc | apply Kd.R_drewN | apply Kd.R_drew)); exact HO282.out))) (Kd.R_lt (by (with_reducible repeat (first | apply Kd.R_alloc | apply Kd.R_drewN | apply Kd.R_drew)); exact HO292.out))) (Kd.R_lt (by (with_reducible repeat (first | apply Kd.R_alloc | apply Kd.R_drewN | apply Kd.R_drew)); exact HO295.out))) (below_size (be w)))
     have HO309 := As.mk (Kd.R_lower (Kd.R_new' (Kd.R_new' (Kd.R_new' (Kd.R_new' (Kd.R_new' (Kd.R_new' ho2 (Kd.R_lt (by (with_reducible repeat (first | apply Kd.R_alloc | apply Kd.R_drewN | apply Kd.R_drew)); exact HO266.out))) (Kd.R_lt (by (with_reducible repeat (first | apply Kd.R_alloc | apply Kd.R_drewN | apply Kd.R_drew)); exact HO269.out))) (Kd.R_lt (by (with_reducible repeat (first | apply Kd.R_alloc | apply Kd.R_drewN | apply Kd.R_drew)); exact HO279.out))) (Kd.R_lt (by (with_reducible repeat (first | apply Kd.R_alloc | apply Kd.R_drewN | apply Kd.R_drew)); exact HO282.out))) (Kd.R_lt (by (with_reducible repeat (first | apply Kd.R_alloc | apply Kd.R_drewN | apply Kd.R_drew)); exact HO292.out))) (Kd.R_lt (by (with_reducible repeat (first | apply Kd.R_alloc | apply Kd.R_drewN | apply Kd.R_drew)); exact HO295.out))) (below_size (be w)))
     replace HO266 := As.mk (Kd.R_mono (Kd.R_told (Kd.R_told (Kd.R_old (by (with_reducible repeat (first | apply Kd.R_alloc | apply Kd.R_drewN | apply Kd.R_drew)); exact HO266.out) hb) (Kd.R_base ho1)) (Kd.R_base ho2)) (fun _ h_ => h_.1))
     replace HO269 := As.mk (Kd.R_mono (Kd.R_told (Kd.R_told (Kd.R_old (by (with_reducible repeat (first | apply Kd.R_alloc | apply Kd.R_drewN | apply Kd.R_drew)); exact HO269.out) hb) (Kd.R_base ho1)) (Kd.R_base ho2)) (fun _ h_ => h_.1))
     replace HO279 := As.mk (Kd.R_mono (Kd.R_told (Kd.R_told (Kd.R_old (by (with_reducible repeat (first | apply Kd.R_alloc | apply Kd.R_drewN | apply Kd.R_drew)); exact HO279.out) hb) (Kd.R_base ho1)) (Kd.R_base ho2)) (fun _ h_ => h_.1))
     replace HO282 := As.mk (Kd.R_mono (Kd.R_told (Kd.R_told (Kd.R_old (by (with_reducible repeat (first | apply Kd.R_alloc | apply Kd.R_drewN | apply Kd.R_drew)); exact HO282.out) hb) (Kd.R_base ho1)) (Kd.R_base ho2)) (fun _ h_ => h_.1))
     replace HO292 := As.mk (Kd.R_mono (Kd.R_told (Kd.R_told (Kd.R_old (by (with_reducible repeat (first | apply Kd.R_alloc | apply Kd.R_drewN | apply Kd.R_drew)); exact HO292.out) hb) (Kd.R_base ho1)) (Kd.R_base ho2)) (fun _ h_ => h_.1))
     replace HO295 := As.mk (Kd.R_mono (Kd.R_told (Kd.R_told (Kd.R_old (by (with_reducible repeat (first | apply Kd.R_alloc | apply Kd.R_drewN | apply Kd.R_drew)); exact HO295.out) hb) (Kd.R_base ho1)) (Kd.R_base ho2)) (fun _ h_ => h_.1))
     replace BK258 := As.mk (blk_below (bx BK258.out) hb)
     replace BK259 := As.mk (blk_below (bx BK259.out) hb)
     replace BK286 := As.mk (blk_below (bx BK286.out) hb)
     replace BK298 := As.mk (blk_below (bx BK298.out) hb)
     replace BK313 := As.mk (blk_below (bx BK313.out) hb)
     replace HB := As.mk (below_step (be w) hb)
     (try clear hb)
     (try clear hb2)
     (try clear hk)
     (try clear hi)
     (try clear ho0)
     (try clear ho1)
     (try clear ho2)
     refine hK.out _ _ ⟨(blk_cell BK298.out 0).trans rfl, (blk_cell BK298.out 1).trans rfl, (blk_cell BK298.out 2).trans rfl, (blk_cell BK298.out 3).trans rfl, (blk_cell BK298.out 4).trans rfl, (blk_cell BK259.out 0).trans rfl, (blk_cell BK259.out 1).trans rfl⟩ (fun hHeld => ?_)
     clear hK K
     refine norm_ (a' := ?_) ?_ ?_
     rotate_left
     ·
      show Act.put _ (some 35) _ = _
      simp only [pk, i64_w, i32_w]
      rfl
     refine pure_ (i := 4) (N := some 31) (v := ?_) (a' := ?_) #[I, I, I, I, I, O, O, I, O, O] rfl rfl (any_of HT_.out (by kernel_rfl)) (fun _ _ _ h => h) (Or.inl ⟨by rfl, ?_⟩) ?_ ?_
     rotate_left
     ·
      intro w'
      go_simp
      with_reducible rfl
     rotate_left
     ·
      simp only [pk, i64_w, i32_w]
      rfl
     refine pure_ (i := 5) (N := some 36) (v := ?_) (a' := ?_) #[I, I, I, I, I, I, O, I, O, O] rfl rfl (any_of HT_.out (by kernel_rfl)) (fun _ _ _ h => h) (Or.inl ⟨by rfl, ?_⟩) ?_ ?_
     rotate_left
     ·
      intro w'
      go_simp
      with_reducible rfl
     rotate_left
     ·
      simp only [pk, i64_w, i32_w]
      rfl
     refine pure_ (i := 6) (N := some 37) (v := ?_) (a' := ?_) #[I, I, I, I, I, I, I, I, O, O] rfl rfl (any_of HT_.out (by kernel_rfl)) (fun _ _ _ h => h) (Or.inl ⟨by rfl, ?_⟩) ?_ ?_
     rotate_left
     ·
      intro w'
      go_simp
      with_reducible rfl
     rotate_left
     ·
      simp only [pk, i64_w, i32_w]
      rfl
     exact norm_ (by simp only [putAll, Act.put, List.setIfInBounds_toArray, List.set_cons_zero, List.set_cons_succ]) (hCont (v302, v305, v308, gb313) _ ⟨hHeld, (by (with_reducible repeat (first | apply Kd.R_alloc | apply Kd.R_drewN | apply Kd.R_drew)); exact Kd.R_mono HO263.out (fun _ hk => ⟨hk.1.1, ⟨hk.1.2, hk.2⟩⟩)), (by (with_reducible repeat (first | apply Kd.R_alloc | apply Kd.R_drewN | apply Kd.R_drew)); exact Kd.R_mono HO266.out (fun _ hk => ⟨hk.1.1.1, ⟨hk.1.1.2.1, ⟨hk.1.1.2.2.1, ⟨hk.1.1.2.2.2.1, ⟨hk.1.1.2.2.2.2, ⟨hk.1.2, hk.2⟩⟩⟩⟩⟩⟩)), (by (with_reducible repeat (first | apply Kd.R_alloc | apply Kd.R_drewN | apply Kd.R_drew)); exact Kd.R_mono HO269.out (fun _ hk => ⟨hk.1.1.1, ⟨hk.1.1.2.1, ⟨hk.1.1.2.2.1, ⟨hk.1.1.2.2.2.1, ⟨hk.1.1.2.2.2.2, ⟨hk.1.2, hk.2⟩⟩⟩⟩⟩⟩)), (by (with_reducible repeat (first | apply Kd.R_alloc | apply Kd.R_drewN | apply Kd.R_drew)); exact Kd.R_mono HO276.out (fun _ hk => ⟨hk.1.1, ⟨hk.1.2, hk.2⟩⟩)), (by (with_reducible repeat (first | apply Kd.R_alloc | apply Kd.R_drewN | apply Kd.R_drew)); exact Kd.R_mono HO279.out (fun _ hk => ⟨hk.1.1.1, ⟨hk.1.1.2.1, ⟨hk.1.1.2.2.1, ⟨hk.1.1.2.2.2.1, ⟨hk.1.1.2.2.2.2, ⟨hk.1.2, hk.2⟩⟩⟩⟩⟩⟩)), (by (with_reducible repeat (first | apply Kd.R_alloc | apply Kd.R_drewN | apply Kd.R_drew)); exact Kd.R_mono HO282.out (fun _ hk => ⟨hk.1.1.1, ⟨hk.1.1.2.1, ⟨hk.1.1.2.2.1, ⟨hk.1.1.2.2.2.1, ⟨hk.1.1.2.2.2.2, ⟨hk.1.2, hk.2⟩⟩⟩⟩⟩⟩)), (by (with_reducible repeat (first | apply Kd.R_alloc | apply Kd.R_drewN | apply Kd.R_drew)); exact Kd.R_mono HO289.out (fun _ hk => ⟨hk.1.1, ⟨hk.1.2, hk.2⟩⟩)), (by (with_reducible repeat (first | apply Kd.R_alloc | apply Kd.R_drewN | apply Kd.R_drew)); exact Kd.R_mono HO292.out (fun _ hk => ⟨hk.1.1.1, ⟨hk.1.1.2.1, ⟨hk.1.1.2.2.1, ⟨hk.1.1.2.2.2.1, ⟨hk.1.1.2.2.2.2, ⟨hk.1.2, hk.2⟩⟩⟩⟩⟩⟩)), (by (with_reducible repeat (first | apply Kd.R_alloc | apply Kd.R_drewN | apply Kd.R_drew)); exact Kd.R_mono HO295.out (fun _ hk => ⟨hk.1.1.1, ⟨hk.1.1.2.1, ⟨hk.1.1.2.2.1, ⟨hk.1.1.2.2.2.1, ⟨hk.1.1.2.2.2.2, ⟨hk.1.2, hk.2⟩⟩⟩⟩⟩⟩)), (by (with_reducible repeat (first | apply Kd.R_alloc | apply Kd.R_drewN | apply Kd.R_drew)); exact Kd.R_mono HO303.out (fun _ hk => ⟨hk.1.1.2, ⟨hk.1.2, hk.2⟩⟩)), (by (with_reducible repeat (first | apply Kd.R_alloc | apply Kd.R_drewN | apply Kd.R_drew)); exact Kd.R_mono HO306.out (fun _ hk => ⟨hk.1.1.1.1.1.2, ⟨hk.1.1.1.1.2, ⟨hk.1.1.1.2, ⟨hk.1.1.2, ⟨hk.1.2, ⟨hk.2, hk.1.1.1.1.1.1⟩⟩⟩⟩⟩⟩)), (by (with_reducible repeat (first | apply Kd.R_alloc | apply Kd.R_drewN | apply Kd.R_drew)); exact Kd.R_mono HO309.out (fun _ hk => ⟨hk.1.1.1.1.1.2, ⟨hk.1.1.1.1.2, ⟨hk.1.1.1.2, ⟨hk.1.1.2, ⟨hk.1.2, ⟨hk.2, hk.1.1.1.1.1.1⟩⟩⟩⟩⟩⟩)), (bx BK258.out), (bx BK259.out), (bx BK286.out), (bx BK298.out), (bx BK313.out), GW313.out, GE313.out, NB258_313.out, NB313_258.out, NB259_313.out, NB313_259.out, NB286_313.out, NB313_286.out, NB298_313.out, NB313_298.out, (be w)⟩)
   rintro ⟨v302, v305, v308, gb313⟩ w52 ⟨hS_, h0_, h1_, h2_, h3_, h4_, h5_, h6_, h7_, h8_, h9_, h10_, h11_, h12_, h13_, h14_, h15_, h16_, h17_, h18_, h19_, h20_, h21_, h22_, h23_, h24_, h25_, h26_, h27_⟩
   have n0_ : As (Kd.R k93 93 w52 w.heap.size (fun k_ => some k_ ≠ (.slice Ao27 t274.length co27 : Value).ownBlock ∧ some k_ ≠ (.slice Ao40 t287.length co40 : Value).ownBlock ∧ some k_ ≠ (v302 : Value).ownBlock) v262 t261) := ⟨h0_⟩
   have n1_ : As (Kd.R (Kd.int .i64) 3 w52 w.heap.size (fun k_ => some k_ ≠ (v268 : Value).ownBlock ∧ some k_ ≠ (.slice Ao29 t277.length co29 : Value).ownBlock ∧ some k_ ≠ (.slice Ao31 t280.length co31 : Value).ownBlock ∧ some k_ ≠ (.slice Ao45 t290.length co45 : Value).ownBlock ∧ some k_ ≠ (.slice Ao46 t293.length co46 : Value).ownBlock ∧ some k_ ≠ (v305 : Value).ownBlock ∧ some k_ ≠ (v308 : Value).ownBlock) v265 t264) := ⟨h1_⟩
   have n2_ : As (Kd.R (Kd.int .i64) 3 w52 w.heap.size (fun k_ => some k_ ≠ (v265 : Value).ownBlock ∧ some k_ ≠ (.slice Ao29 t277.length co29 : Value).ownBlock ∧ some k_ ≠ (.slice Ao31 t280.length co31 : Value).ownBlock ∧ some k_ ≠ (.slice Ao45 t290.length co45 : Value).ownBlock ∧ some k_ ≠ (.slice Ao46 t293.length co46 : Value).ownBlock ∧ some k_ ≠ (v305 : Value).ownBlock ∧ some k_ ≠ (v308 : Value).ownBlock) v268 t267) := ⟨h2_⟩
   have n3_ : As (Kd.R k93 93 w52 w.heap.size (fun k_ => some k_ ≠ (v262 : Value).ownBlock ∧ some k_ ≠ (.slice Ao40 t287.length co40 : Value).ownBlock ∧ some k_ ≠ (v302 : Value).ownBlock) (.slice Ao27 t274.length co27) t274) := ⟨h3_⟩
   have n4_ : As (Kd.R (Kd.int .i64) 3 w52 w.heap.size (fun k_ => some k_ ≠ (v265 : Value).ownBlock ∧ some k_ ≠ (v268 : Value).ownBlock ∧ some k_ ≠ (.slice Ao31 t280.length co31 : Value).ownBlock ∧ some k_ ≠ (.slice Ao45 t290.length co45 : Value).ownBlock ∧ some k_ ≠ (.slice Ao46 t293.length co46 : Value).ownBlock ∧ some k_ ≠ (v305 : Value).ownBlock ∧ some k_ ≠ (v308 : Value).ownBlock) (.slice Ao29 t277.length co29) t277) := ⟨h4_⟩
   have n5_ : As (Kd.R (Kd.int .i64) 3 w52 w.heap.size (fun k_ => some k_ ≠ (v265 : Value).ownBlock ∧ some k_ ≠ (v268 : Value).ownBlock ∧ some k_ ≠ (.slice Ao29 t277.length co29 : Value).ownBlock ∧ some k_ ≠ (.slice Ao45 t290.length co45 : Value).ownBlock ∧ some k_ ≠ (.slice Ao46 t293.length co46 : Value).ownBlock ∧ some k_ ≠ (v305 : Value).ownBlock ∧ some k_ ≠ (v308 : Value).ownBlock) (.slice Ao31 t280.length co31) t280) := ⟨h5_⟩
   have n6_ : As (Kd.R k93 93 w52 w.heap.size (fun k_ => some k_ ≠ (v262 : Value).ownBlock ∧ some k_ ≠ (.slice Ao27 t274.length co27 : Value).ownBlock ∧ some k_ ≠ (v302 : Value).ownBlock) (.slice Ao40 t287.length co40) t287) := ⟨h6_⟩
   have n7_ : As (Kd.R (Kd.int .i64) 3 w52 w.heap.size (fun k_ => some k_ ≠ (v265 : Value).ownBlock ∧ some k_ ≠ (v268 : Value).ownBlock ∧ some k_ ≠ (.slice Ao29 t277.length co29 : Value).ownBlock ∧ some k_ ≠ (.slice Ao31 t280.length co31 : Value).ownBlock ∧ some k_ ≠ (.slice Ao46 t293.length co46 : Value).ownBlock ∧ some k_ ≠ (v305 : Value).ownBlock ∧ some k_ ≠ (v308 : Value).ownBlock) (.slice Ao45 t290.length co45) t290) := ⟨h7_⟩
   have n8_ : As (Kd.R (Kd.int .i64) 3 w52 w.heap.size (fun k_ => some k_ ≠ (v265 : Value).ownBlock ∧ some k_ ≠ (v268 : Value).ownBlock ∧ some k_ ≠ (.slice Ao29 t277.length co29 : Value).ownBlock ∧ some k_ ≠ (.slice Ao31 t280.length co31 : Value).ownBlock ∧ some k_ ≠ (.slice Ao45 t290.length co45 : Value).ownBlock ∧ some k_ ≠ (v305 : Value).ownBlock ∧ some k_ ≠ (v308 : Value).ownBlock) (.slice Ao46 t293.length co46) t293) := ⟨h8_⟩
   have n9_ : As (Kd.R k93 93 w52 w.heap.size (fun k_ => some k_ ≠ (v262 : Value).ownBlock ∧ some k_ ≠ (.slice Ao27 t274.length co27 : Value).ownBlock ∧ some k_ ≠ (.slice Ao40 t287.length co40 : Value).ownBlock) v302 t301) := ⟨h9_⟩
   have n10_ : As (Kd.R (Kd.int .i64) 3 w52 w.heap.size (fun k_ => some k_ ≠ (v265 : Value).ownBlock ∧ some k_ ≠ (v268 : Value).ownBlock ∧ some k_ ≠ (.slice Ao29 t277.length co29 : Value).ownBlock ∧ some k_ ≠ (.slice Ao31 t280.length co31 : Value).ownBlock ∧ some k_ ≠ (.slice Ao45 t290.length co45 : Value).ownBlock ∧ some k_ ≠ (.slice Ao46 t293.length co46 : Value).ownBlock ∧ some k_ ≠ (v308 : Value).ownBlock) v305 t304) := ⟨h10_⟩
   have n11_ : As (Kd.R (Kd.int .i64) 3 w52 w.heap.size (fun k_ => some k_ ≠ (v265 : Value).ownBlock ∧ some k_ ≠ (v268 : Value).ownBlock ∧ some k_ ≠ (.slice Ao29 t277.length co29 : Value).ownBlock ∧ some k_ ≠ (.slice Ao31 t280.length co31 : Value).ownBlock ∧ some k_ ≠ (.slice Ao45 t290.length co45 : Value).ownBlock ∧ some k_ ≠ (.slice Ao46 t293.length co46 : Value).ownBlock ∧ some k_ ≠ (v305 : Value).ownBlock) v308 t307) := ⟨h11_⟩
   have n12_ : As (w52.heap[gb258]? = some (.cells #[.slice A0_0 l0_0.length c0_0, .slice A0_1 l0_1.length c0_1, .slice A0_2 l0_2.length c0_2, .int .i64 a0_3, .int .i64 a0_4] 47 (0, 0))) := ⟨h12_⟩
   have n13_ : As (w52.heap[gb259]? = some (.cells #[.int .i64 a1_0, .int .i64 a1_1] 48 (0, 0))) := ⟨h13_⟩
   have n14_ : As (w52.heap[gb286]? = some (.cells #[.slice Ao27 t274.length co27, .slice Ao29 t277.length co29, .slice Ao31 t280.length co31, .int .i64 t283, .int .i64 t284] 34 (0, 0))) := ⟨h14_⟩
   have n15_ : As (w52.heap[gb298]? = some (.cells #[.slice Ao40 t287.length co40, .slice Ao45 t290.length co45, .slice Ao46 t293.length co46, .int .i64 t296, .int .i64 t297] 34 (0, 0))) := ⟨h15_⟩
   have n16_ : As (w52.heap[gb313]? = some (.cells #[.slice none 0 0, .slice none 0 0, .slice none 0 0, .int .i64 0, .int .i64 0] 34 (0, 0))) := ⟨h16_⟩
   have n17_ : As (w.heap.size ≤ gb313) := ⟨h17_⟩
   have n18_ : As (w.heap.size ≤ gb313) := ⟨h18_⟩
   have n19_ : As (gb258 ≠ gb313) := ⟨h19_⟩
   have n20_ : As (gb313 ≠ gb258) := ⟨h20_⟩
   have n21_ : As (gb259 ≠ gb313) := ⟨h21_⟩
   have n22_ : As (gb313 ≠ gb259) := ⟨h22_⟩
   have n23_ : As (gb286 ≠ gb313) := ⟨h23_⟩
   have n24_ : As (gb313 ≠ gb286) := ⟨h24_⟩
   have n25_ : As (gb298 ≠ gb313) := ⟨h25_⟩
   have n26_ : As (gb313 ≠ gb298) := ⟨h26_⟩
   have n27_ : As (Below w.heap.size w w52) := ⟨h27_⟩
   clear HO263
   clear HO266
   clear HO269
   clear HO276
   clear HO279
   clear HO282
   clear HO289
   clear HO292
   clear HO295
   clear BK258
   clear BK259
   clear BK286
   clear BK298
   clear HB
   clear h0_ h1_ h2_ h3_ h4_ h5_ h6_ h7_ h8_ h9_ h10_ h11_ h12_ h13_ h14_ h15_ h16_ h17_ h18_ h19_ h20_ h21_ h22_ h23_ h24_ h25_ h26_ h27_
   have HO263 := n0_
   have HO266 := n1_
   have HO269 := n2_
   have HO276 := n3_
   have HO279 := n4_
   have HO282 := n5_
   have HO289 := n6_
   have HO292 := n7_
   have HO295 := n8_
   have HO303 := n9_
   have HO306 := n10_
   have HO309 := n11_
   have BK258 := n12_
   have BK259 := n13_
   have BK286 := n14_
   have BK298 := n15_
   have BK313 := n16_
   have GW313 := n17_
   have GE313 := n18_
   have NB258_313 := n19_
   have NB313_258 := n20_
   have NB259_313 := n21_
   have NB313_259 := n22_
   have NB286_313 := n23_
   have NB313_286 := n24_
   have NB298_313 := n25_
   have NB313_298 := n26_
   have HB := n27_
   clear n0_ n1_ n2_ n3_ n4_ n5_ n6_ n7_ n8_ n9_ n10_ n11_ n12_ n13_ n14_ n15_ n16_ n17_ n18_ n19_ n20_ n21_ n22_ n23_ n24_ n25_ n26_ n27_
   have hHeld : w52.cell? ⟨gb298, 0, none⟩ = some (.slice Ao40 t287.length co40) ∧ w52.cell? ⟨gb298, 1, none⟩ = some (.slice Ao45 t290.length co45) ∧ w52.cell? ⟨gb298, 2, none⟩ = some (.slice Ao46 t293.length co46) ∧ w52.cell? ⟨gb298, 3, none⟩ = some (.int .i64 t296) ∧ w52.cell? ⟨gb298, 4, none⟩ = some (.int .i64 t297) ∧ w52.cell? ⟨gb259, 0, none⟩ = some (.int .i64 a1_0) ∧ w52.cell? ⟨gb259, 1, none⟩ = some (.int .i64 a1_1) := hS_
   obtain ⟨Ao53, co53, eo53⟩ := Kd.R_slice HO303.out
   (first | subst eo53 | (injection eo53 with f1_ f2_ f3_; have f4_ := f1_.symm; have f5_ := f3_.symm; clear f1_ f2_ f3_; subst f4_; subst f5_))
   obtain ⟨Ao55, co55, eo55⟩ := Kd.R_slice HO306.out
   (first | subst eo55 | (injection eo55 with f1_ f2_ f3_; have f4_ := f1_.symm; have f5_ := f3_.symm; clear f1_ f2_ f3_; subst f4_; subst f5_))
   obtain ⟨Ao57, co57, eo57⟩ := Kd.R_slice HO309.out
   (first | subst eo57 | (injection eo57 with f1_ f2_ f3_; have f4_ := f1_.symm; have f5_ := f3_.symm; clear f1_ f2_ f3_; subst f4_; subst f5_))
   refine norm_ (a' := ?_) ?_ ?_
   rotate_left
   ·
    simp only [putAll, Act.put, List.setIfInBounds_toArray, List.set_cons_zero, List.set_cons_succ]
    rfl
   refine one_ (i := 8) (N := none) #[I, I, I, I, I, I, I, I, I, O] rfl rfl (one_of HT_.out (by kernel_rfl)) (by decide) (fun K hK => ?_)
   have hs54 : w52.cell? ⟨gb313, 0, none⟩ = some (.slice none 0 0) := (blk_cell BK313.out 0).trans rfl
   have hfs54 := blk_frozen BK313.out 0
   have hns54_0 := NB258_313.out
   have hns54_1 := NB259_313.out
   have hns54_2 := NB286_313.out
   have hns54_3 := NB298_313.out
   have hms54_0 := NB313_258.out
   have hms54_1 := NB313_259.out
   have hms54_2 := NB313_286.out
   have hms54_3 := NB313_298.out
   have hs56 : w52.cell? ⟨gb313, 1, none⟩ = some (.slice none 0 0) := (blk_cell BK313.out 1).trans rfl
   have hfs56 := blk_frozen BK313.out 1
   have hns56_0 := NB258_313.out
   have hns56_1 := NB259_313.out
   have hns56_2 := NB286_313.out
   have hns56_3 := NB298_313.out
   have hms56_0 := NB313_258.out
   have hms56_1 := NB313_259.out
   have hms56_2 := NB313_286.out
   have hms56_3 := NB313_298.out
   have hs58 : w52.cell? ⟨gb313, 2, none⟩ = some (.slice none 0 0) := (blk_cell BK313.out 2).trans rfl
   have hfs58 := blk_frozen BK313.out 2
   have hns58_0 := NB258_313.out
   have hns58_1 := NB259_313.out
   have hns58_2 := NB286_313.out
   have hns58_3 := NB298_313.out
   have hms58_0 := NB313_258.out
   have hms58_1 := NB313_259.out
   have hms58_2 := NB313_286.out
   have hms58_3 := NB313_298.out
   have hs59 : w52.cell? ⟨gb313, 3, none⟩ = some (.int .i64 0) := (blk_cell BK313.out 3).trans rfl
   have hfs59 := blk_frozen BK313.out 3
   have hns59_0 := NB258_313.out
   have hns59_1 := NB259_313.out
   have hns59_2 := NB286_313.out
   have hns59_3 := NB298_313.out
   have hms59_0 := NB313_258.out
   have hms59_1 := NB313_259.out
   have hms59_2 := NB313_286.out
   have hms59_3 := NB313_298.out
   have hs60 : w52.cell? ⟨gb313, 4, none⟩ = some (.int .i64 0) := (blk_cell BK313.out 4).trans rfl
   have hfs60 := blk_frozen BK313.out 4
   have hns60_0 := NB258_313.out
   have hns60_1 := NB259_313.out
   have hns60_2 := NB286_313.out
   have hns60_3 := NB298_313.out
   have hms60_0 := NB313_258.out
   have hms60_1 := NB313_259.out
   have hms60_2 := NB313_286.out
   have hms60_3 := NB313_298.out
   refine skip_ (w1 := ?_) (by rfl) rfl ?_ ?_
   rotate_left
   ·
    go_simp
    rfl
   refine hK.out _ _ ⟨((cell_far (p := ⟨gb313, _, none⟩) NB298_313.out _).trans (((cell_far (p := ⟨gb313, _, none⟩) NB298_313.out _).trans (((cell_far (p := ⟨gb313, _, none⟩) NB298_313.out _).trans (((cell_far (p := ⟨gb313, _, none⟩) NB298_313.out _).trans (((cell_far (p := ⟨gb313, _, none⟩) NB298_313.out _).trans (hHeld.1)))))))))), ((cell_far (p := ⟨gb313, _, none⟩) NB298_313.out _).trans (((cell_far (p := ⟨gb313, _, none⟩) NB298_313.out _).trans (((cell_far (p := ⟨gb313, _, none⟩) NB298_313.out _).trans (((cell_far (p := ⟨gb313, _, none⟩) NB298_313.out _).trans (((cell_far (p := ⟨gb313, _, none⟩) NB298_313.out _).trans (hHeld.2.1)))))))))), ((cell_far (p := ⟨gb313, _, none⟩) NB298_313.out _).trans (((cell_far (p := ⟨gb313, _, none⟩) NB298_313.out _).trans (((cell_far (p := ⟨gb313, _, none⟩) NB298_313.out _).trans (((cell_far (p := ⟨gb313, _, none⟩) NB298_313.out _).trans (((cell_far (p := ⟨gb313, _, none⟩) NB298_313.out _).trans (hHeld.2.2.1)))))))))), ((cell_far (p := ⟨gb313, _, none⟩) NB298_313.out _).trans (((cell_far (p := ⟨gb313, _, none⟩) NB298_313.out _).trans (((cell_far (p := ⟨gb313, _, none⟩) NB298_313.out _).trans (((cell_far (p := ⟨gb313, _, none⟩) NB298_313.out _).trans (((cell_far (p := ⟨gb313, _, none⟩) NB298_313.out _).trans (hHeld.2.2.2.1)))))))))), ((cell_far (p := ⟨gb313, _, none⟩) NB298_313.out _).trans (((cell_far (p := ⟨gb313, _, none⟩) NB298_313.out _).trans (((cell_far (p := ⟨gb313, _, none⟩) NB298_313.out _).trans (((cell_far (p := ⟨gb313, _, none⟩) NB298_313.out _).trans (((cell_far (p := ⟨gb313, _, none⟩) NB298_313.out _).trans (hHeld.2.2.2.2.1)))))))))), ((cell_far (p := ⟨gb313, _, none⟩) NB259_313.out _).trans (((cell_far (p := ⟨gb313, _, none⟩) NB259_313.out _).trans (((cell_far (p := ⟨gb313, _, none⟩) NB259_313.out _).trans (((cell_far (p := ⟨gb313, _, none⟩) NB259_313.out _).trans (((cell_far (p := ⟨gb313, _, none⟩) NB259_313.out _).trans (hHeld.2.2.2.2.2.1)))))))))), ((cell_far (p := ⟨gb313, _, none⟩) NB259_313.out _).trans (((cell_far (p := ⟨gb313, _, none⟩) NB259_313.out _).trans (((cell_far (p := ⟨gb313, _, none⟩) NB259_313.out _).trans (((cell_far (p := ⟨gb313, _, none⟩) NB259_313.out _).trans (((cell_far (p := ⟨gb313, _, none⟩) NB259_313.out _).trans (hHeld.2.2.2.2.2.2))))))))))⟩ (fun hHeld => ?_)
   clear hK K
   refine pure_ (i := 9) (N := some 10) (v := ?_) (a' := ?_) #[I, I, I, I, I, I, I, I, I, I] rfl rfl (any_of HT_.out (by kernel_rfl)) (fun _ _ _ h => h) (Or.inl ⟨by rfl, ?_⟩) ?_ ?_
   rotate_left
   ·
    intro w'
    go_simp
    with_reducible rfl
   rotate_left
   ·
    simp only [pk, i64_w, i32_w]
    rfl
   refine done_ (done_of HT_.out (by kernel_rfl)) ?_
   go_upto_region 8 with (fail)
   go_cut [46] (fun v46 wc => ∃ (kq : Nat) (x46_16 : Bool), v46 = .bool x46_16 ∧ As (laws_FnExactLooked.j1 kq t285 t312 x46_16 l0_0 l0_1 l0_2 a0_3 a0_4 a1_0 a1_1 t274 t277 t280 t283 t284 t287 t290 t293 t296 t297 t301 t304 t307 t310 t311 = some r) ∧ As (kq ≤ kj3) ∧ As (Kd.R k93 93 wc w.heap.size (fun k_ => some k_ ≠ ((.slice Ao40 t287.length co40) : Value).ownBlock ∧ some k_ ≠ ((.slice Ao53 t301.length co53) : Value).ownBlock) (.slice Ao27 t274.length co27) t274) ∧ As (Kd.R (Kd.int .i64) 3 wc w.heap.size (fun k_ => some k_ ≠ ((.slice Ao31 t280.length co31) : Value).ownBlock ∧ some k_ ≠ ((.slice Ao45 t290.length co45) : Value).ownBlock ∧ some k_ ≠ ((.slice Ao46 t293.length co46) : Value).ownBlock ∧ some k_ ≠ ((.slice Ao55 t304.length co55) : Value).ownBlock ∧ some k_ ≠ ((.slice Ao57 t307.length co57) : Value).ownBlock) (.slice Ao29 t277.length co29) t277) ∧ As (Kd.R (Kd.int .i64) 3 wc w.heap.size (fun k_ => some k_ ≠ ((.slice Ao29 t277.length co29) : Value).ownBlock ∧ some k_ ≠ ((.slice Ao45 t290.length co45) : Value).ownBlock ∧ some k_ ≠ ((.slice Ao46 t293.length co46) : Value).ownBlock ∧ some k_ ≠ ((.slice Ao55 t304.length co55) : Value).ownBlock ∧ some k_ ≠ ((.slice Ao57 t307.length co57) : Value).ownBlock) (.slice Ao31 t280.length co31) t280) ∧ As (Kd.R k93 93 wc w.heap.size (fun k_ => some k_ ≠ ((.slice Ao27 t274.length co27) : Value).ownBlock ∧ some k_ ≠ ((.slice Ao53 t301.length co53) : Value).ownBlock) (.slice Ao40 t287.length co40) t287) ∧ As (Kd.R (Kd.int .i64) 3 wc w.heap.size (fun k_ => some k_ ≠ ((.slice Ao29 t277.length co29) : Value).ownBlock ∧ some k_ ≠ ((.slice Ao31 t280.length co31) : Value).ownBlock ∧ some k_ ≠ ((.slice Ao46 t293.length co46) : Value).ownBlock ∧ some k_ ≠ ((.slice Ao55 t304.length co55) : Value).ownBlock ∧ some k_ ≠ ((.slice Ao57 t307.length co57) : Value).ownBlock) (.slice Ao45 t290.length co45) t290) ∧ As (Kd.R (Kd.int .i64) 3 wc w.heap.size (fun k_ => some k_ ≠ ((.slice Ao29 t277.length co29) : Value).ownBlock ∧ some k_ ≠ ((.slice Ao31 t280.length co31) : Value).ownBlock ∧ some k_ ≠ ((.slice Ao45 t290.length co45) : Value).ownBlock ∧ some k_ ≠ ((.slice Ao55 t304.length co55) : Value).ownBlock ∧ some k_ ≠ ((.slice Ao57 t307.length co57) : Value).ownBlock) (.slice Ao46 t293.length co46) t293) ∧ As (Kd.R k93 93 wc w.heap.size (fun k_ => some k_ ≠ ((.slice Ao27 t274.length co27) : Value).ownBlock ∧ some k_ ≠ ((.slice Ao40 t287.length co40) : Value).ownBlock) (.slice Ao53 t301.length co53) t301) ∧ As (Kd.R (Kd.int .i64) 3 wc w.heap.size (fun k_ => some k_ ≠ ((.slice Ao29 t277.length co29) : Value).ownBlock ∧ some k_ ≠ ((.slice Ao31 t280.length co31) : Value).ownBlock ∧ some k_ ≠ ((.slice Ao45 t290.length co45) : Value).ownBlock ∧ some k_ ≠ ((.slice Ao46 t293.length co46) : Value).ownBlock ∧ some k_ ≠ ((.slice Ao57 t307.length co57) : Value).ownBlock) (.slice Ao55 t304.length co55) t304) ∧ As (Kd.R (Kd.int .i64) 3 wc w.heap.size (fun k_ => some k_ ≠ ((.slice Ao29 t277.length co29) : Value).ownBlock ∧ some k_ ≠ ((.slice Ao31 t280.length co31) : Value).ownBlock ∧ some k_ ≠ ((.slice Ao45 t290.length co45) : Value).ownBlock ∧ some k_ ≠ ((.slice Ao46 t293.length co46) : Value).ownBlock ∧ some k_ ≠ ((.slice Ao55 t304.length co55) : Value).ownBlock) (.slice Ao57 t307.length co57) t307) ∧ As (wc.heap[gb258]? = some (.cells #[(.slice A0_0 l0_0.length c0_0), (.slice A0_1 l0_1.length c0_1), (.slice A0_2 l0_2.length c0_2), .int .i64 a0_3, .int .i64 a0_4] 47 (0, 0))) ∧ As (wc.heap[gb259]? = some (.cells #[.int .i64 a1_0, .int .i64 a1_1] 48 (0, 0))) ∧ As (wc.heap[gb286]? = some (.cells #[(.slice Ao27 t274.length co27), (.slice Ao29 t277.length co29), (.slice Ao31 t280.length co31), .int .i64 t283, .int .i64 t284] 34 (0, 0))) ∧ As (wc.heap[gb298]? = some (.cells #[(.slice Ao40 t287.length co40), (.slice Ao45 t290.length co45), (.slice Ao46 t293.length co46), .int .i64 t296, .int .i64 t297] 34 (0, 0))) ∧ As (wc.heap[gb313]? = some (.cells #[(.slice Ao53 t301.length co53), (.slice Ao55 t304.length co55), (.slice Ao57 t307.length co57), .int .i64 t310, .int .i64 t311] 34 (0, 0))) ∧ As (Below w.heap.size w wc))
   case first =>
    have H := HC17.out
    clear HC17
    obtain ⟨t314, A610, H⟩ := Option.bind_eq_some_iff.mp H
    try dsimp only at H
    have A61 := As.mk A610
    clear A610
    by_cases c62 : t314 = true
    ·
     subst c62
     rw [if_pos rfl] at H
     have H' := As.mk H
     clear H
     have hnb63 := NB313_258.out
     have hnc63 := NB258_313.out
     have hnb64 := NB313_259.out
     have hnc64 := NB259_313.out
     have hnb65 := NB313_286.out
     have hnc65 := NB286_313.out
     have hnb66 := NB313_298.out
     have hnc66 := NB298_313.out
     obtain ⟨hcz67_0, hcz67_1, hcz67_2, hcz67_3, hcz67_4, hfz67_0, hfz67_1, hfz67_2, hfz67_3, hfz67_4⟩ := cl5 BK313.out
     have hnb68 := NB286_258.out
     have hnc68 := NB258_286.out
     have hnb69 := NB286_259.out
     have hnc69 := NB259_286.out
     have hnb70 := NB286_298.out
     have hnc70 := NB298_286.out
     obtain ⟨hcz71_0, hcz71_1, hcz71_2, hcz71_3, hcz71_4, hfz71_0, hfz71_1, hfz71_2, hfz71_3, hfz71_4⟩ := cl5 BK286.out
     go_wp2_with (first | ((with_reducible refine gate_callee (f := 27) rfl ?_); refine goesL_ (some 40) rfl rfl Try.func27 (by kernel_rfl) rfl #[.agg #[.slice Ao53 t301.length co53, .slice Ao55 t304.length co55, .slice Ao57 t307.length co57, .int .i64 t310, .int .i64 t311], .agg #[.slice Ao27 t274.length co27, .slice Ao29 t277.length co29, .slice Ao31 t280.length co31, .int .i64 t283, .int .i64 t284]] rfl (by (try simp only [lm]); first | done | rfl | (simp only [List.length_drop, List.length_take]; rfl)) ?_; (with_reducible refine (laws_eqMemory.calls kj3 _ _ t301 _ _ t304 _ _ t307 t310 t311 _ _ t274 _ _ t277 _ _ t280 t283 t284 true _ ?side1 ?side2 ?side3 ?side4 ?side5 ?side6 ?side7 ?side8 ?side9 ?side10 ?side11 ?side12 A61.out).mono ?_); (case side1 => refine (Kd.R_reads' (e := 93) (base := w.heap.size) (ok := fun k_ => (some k_ ≠ (v262 : Value).ownBlock ∧ (some k_ ≠ (.slice Ao27 t274.length co27 : Value).ownBlock ∧ some k_ ≠ (.slice Ao40 t287.length co40 : Value).ownBlock))) (n := t301.length) (c := co53) ?_).2.2; exact (by (with_reducible repeat (first | apply Kd.R_alloc | apply Kd.R_drewN | apply Kd.R_drew)); (have z_ := R_far5 HO303.out BK313.out (by decide)); with_reducible exact z_ _ _ _ _ _)); (case side2 => exact (Kd.R_reads' HO303.out).2.1); (case side3 => refine (Kd.R_reads' (e := 3) (base := w.heap.size) (ok := fun k_ => (some k_ ≠ (v265 : Value).ownBlock ∧ (some k_ ≠ (v268 : Value).ownBlock ∧ (some k_ ≠ (.slice Ao29 t277.length co29 : Value).ownBlock ∧ (some k_ ≠ (.slice Ao31 t280.length co31 : Value).ownBlock ∧ (some k_ ≠ (.slice Ao45 t290.length co45 : Value).ownBlock ∧ (some k_ ≠ (.slice Ao46 t293.length co46 : Value).ownBlock ∧ some k_ ≠ (.slice Ao57 t307.length co57 : Value).ownBlock))))))) (n := t304.length) (c := co55) ?_).2.2; exact (by (with_reducible repeat (first | apply Kd.R_alloc | apply Kd.R_drewN | apply Kd.R_drew)); (have z_ := R_far5 HO306.out BK313.out (by decide)); with_reducible exact z_ _ _ _ _ _)); (case side4 => exact (Kd.R_reads' HO306.out).2.1); (case side5 => refine (Kd.R_reads' (e := 3) (base := w.heap.size) (ok := fun k_ => (some k_ ≠ (v265 : Value).ownBlock ∧ (some k_ ≠ (v268 : Value).ownBlock ∧ (some k_ ≠ (.slice Ao29 t277.length co29 : Value).ownBlock ∧ (some k_ ≠ (.slice Ao31 t280.length co31 : Value).ownBlock ∧ (some k_ ≠ (.slice Ao45 t290.length co45 : Value).ownBlock ∧ (some k_ ≠ (.slice Ao46 t293.length co46 : Value).ownBlock ∧ some k_ ≠ (.slice Ao55 t304.length co55 : Value).ownBlock))))))) (n := t307.length) (c := co57) ?_).2.2; exact (by (with_reducible repeat (first | apply Kd.R_alloc | apply Kd.R_drewN | apply Kd.R_drew)); (have z_ := R_far5 HO309.out BK313.out (by decide)); with_reducible exact z_ _ _ _ _ _)); (case side6 => exact (Kd.R_reads' HO309.out).2.1); (case side7 => refine (Kd.R_reads' (e := 93) (base := w.heap.size) (ok := fun k_ => (some k_ ≠ (v262 : Value).ownBlock ∧ (some k_ ≠ (.slice Ao40 t287.length co40 : Value).ownBlock ∧ some k_ ≠ (.slice Ao53 t301.length co53 : Value).ownBlock))) (n := t274.length) (c := co27) ?_).2.2; exact (by (with_reducible repeat (first | apply Kd.R_alloc | apply Kd.R_drewN | apply Kd.R_drew)); (have z_ := R_far5 HO276.out BK313.out (by decide)); with_reducible exact z_ _ _ _ _ _)); (case side8 => exact (Kd.R_reads' HO276.out).2.1); (case side9 => refine (Kd.R_reads' (e := 3) (base := w.heap.size) (ok := fun k_ => (some k_ ≠ (v265 : Value).ownBlock ∧ (some k_ ≠ (v268 : Value).ownBlock ∧ (some k_ ≠ (.slice Ao31 t280.length co31 : Value).ownBlock ∧ (some k_ ≠ (.slice Ao45 t290.length co45 : Value).ownBlock ∧ (some k_ ≠ (.slice Ao46 t293.length co46 : Value).ownBlock ∧ (some k_ ≠ (.slice Ao55 t304.length co55 : Value).ownBlock ∧ some k_ ≠ (.slice Ao57 t307.length co57 : Value).ownBlock))))))) (n := t277.length) (c := co29) ?_).2.2; exact (by (with_reducible repeat (first | apply Kd.R_alloc | apply Kd.R_drewN | apply Kd.R_drew)); (have z_ := R_far5 HO279.out BK313.out (by decide)); with_reducible exact z_ _ _ _ _ _)); (case side10 => exact (Kd.R_reads' HO279.out).2.1); (case side11 => refine (Kd.R_reads' (e := 3) (base := w.heap.size) (ok := fun k_ => (some k_ ≠ (v265 : Value).ownBlock ∧ (some k_ ≠ (v268 : Value).ownBlock ∧ (some k_ ≠ (.slice Ao29 t277.length co29 : Value).ownBlock ∧ (some k_ ≠ (.slice Ao45 t290.length co45 : Value).ownBlock ∧ (some k_ ≠ (.slice Ao46 t293.length co46 : Value).ownBlock ∧ (some k_ ≠ (.slice Ao55 t304.length co55 : Value).ownBlock ∧ some k_ ≠ (.slice Ao57 t307.length co57 : Value).ownBlock))))))) (n := t280.length) (c := co31) ?_).2.2; exact (by (with_reducible repeat (first | apply Kd.R_alloc | apply Kd.R_drewN | apply Kd.R_drew)); (have z_ := R_far5 HO282.out BK313.out (by decide)); with_reducible exact z_ _ _ _ _ _)); (case side12 => exact (Kd.R_reads' HO282.out).2.1); rintro e w72 ⟨rfl, hb⟩; refine ⟨_, rfl, ?_⟩; replace HO263 := As.mk (Kd.R_below (by (with_reducible repeat (first | apply Kd.R_alloc | apply Kd.R_drewN | apply Kd.R_drew)); (have z_ := R_far5 HO263.out BK313.out (by decide)); with_reducible exact z_ _ _ _ _ _) hb); replace HO266 := As.mk (Kd.R_below (by (with_reducible repeat (first | apply Kd.R_alloc | apply Kd.R_drewN | apply Kd.R_drew)); (have z_ := R_far5 HO266.out BK313.out (by decide)); with_reducible exact z_ _ _ _ _ _) hb); replace HO269 := As.mk (Kd.R_below (by (with_reducible repeat (first | apply Kd.R_alloc | apply Kd.R_drewN | apply Kd.R_drew)); (have z_ := R_far5 HO269.out BK313.out (by decide)); with_reducible exact z_ _ _ _ _ _) hb); replace HO276 := As.mk (Kd.R_below (by (with_reducible repeat (first | apply Kd.R_alloc | apply Kd.R_drewN | apply Kd.R_drew)); (have z_ := R_far5 HO276.out BK313.out (by decide)); with_reducible exact z_ _ _ _ _ _) hb); replace HO279 := As.mk (Kd.R_below (by (with_reducible repeat (first | apply Kd.R_alloc | apply Kd.R_drewN | apply Kd.R_drew)); (have z_ := R_far5 HO279.out BK313.out (by decide)); with_reducible exact z_ _ _ _ _ _) hb); replace HO282 := As.mk (Kd.R_below (by (with_reducible repeat (first | apply Kd.R_alloc | apply Kd.R_drewN | apply Kd.R_drew)); (have z_ := R_far5 HO282.out BK313.out (by decide)); with_reducible exact z_ _ _ _ _ _) hb); replace HO289 := As.mk (Kd.R_below (by (with_reducible repeat (first | apply Kd.R_alloc | apply Kd.R_drewN | apply Kd.R_drew)); (have z_ := R_far5 HO289.out BK313.out (by decide)); with_reducible exact z_ _ _ _ _ _) hb); replace HO292 := As.mk (Kd.R_below (by (with_reducible repeat (first | apply Kd.R_alloc | apply Kd.R_drewN | apply Kd.R_drew)); (have z_ := R_far5 HO292.out BK313.out (by decide)); with_reducible exact z_ _ _ _ _ _) hb); replace HO295 := As.mk (Kd.R_below (by (with_reducible repeat (first | apply Kd.R_alloc | apply Kd.R_drewN | apply Kd.R_drew)); (have z_ := R_far5 HO295.out BK313.out (by decide)); with_reducible exact z_ _ _ _ _ _) hb); replace HO303 := As.mk (Kd.R_below (by (with_reducible repeat (first | apply Kd.R_alloc | apply Kd.R_drewN | apply Kd.R_drew)); (have z_ := R_far5 HO303.out BK313.out (by decide)); with_reducible exact z_ _ _ _ _ _) hb); replace HO306 := As.mk (Kd.R_below (by (with_reducible repeat (first | apply Kd.R_alloc | apply Kd.R_drewN | apply Kd.R_drew)); (have z_ := R_far5 HO306.out BK313.out (by decide)); with_reducible exact z_ _ _ _ _ _) hb); replace HO309 := As.mk (Kd.R_below (by (with_reducible repeat (first | apply Kd.R_alloc | apply Kd.R_drewN | apply Kd.R_drew)); (have z_ := R_far5 HO309.out BK313.out (by decide)); with_reducible exact z_ _ _ _ _ _) hb); replace BK258 := As.mk (blk_below (g := gb258) (o := .cells #[.slice A0_0 l0_0.length c0_0, .slice A0_1 l0_1.length c0_1, .slice A0_2 l0_2.length c0_2, .int .i64 a0_3, .int .i64 a0_4] 47 (0, 0)) (by refine pl ?_; refine blk_far ?_ NB258_313.out _; refine pl ?_; refine blk_far ?_ NB258_313.out _; refine pl ?_; refine blk_far ?_ NB258_313.out _; refine pl ?_; refine blk_far ?_ NB258_313.out _; refine pl ?_; refine blk_far ?_ NB258_313.out _; exact bx BK258.out) hb); replace BK259 := As.mk (blk_below (g := gb259) (o := .cells #[.int .i64 a1_0, .int .i64 a1_1] 48 (0, 0)) (by refine pl ?_; refine blk_far ?_ NB259_313.out _; refine pl ?_; refine blk_far ?_ NB259_313.out _; refine pl ?_; refine blk_far ?_ NB259_313.out _; refine pl ?_; refine blk_far ?_ NB259_313.out _; refine pl ?_; refine blk_far ?_ NB259_313.out _; exact bx BK259.out) hb); replace BK286 := As.mk (blk_below (g := gb286) (o := .cells #[.slice Ao27 t274.length co27, .slice Ao29 t277.length co29, .slice Ao31 t280.length co31, .int .i64 t283, .int .i64 t284] 34 (0, 0)) (by refine pl ?_; refine blk_far ?_ NB286_313.out _; refine pl ?_; refine blk_far ?_ NB286_313.out _; refine pl ?_; refine blk_far ?_ NB286_313.out _; refine pl ?_; refine blk_far ?_ NB286_313.out _; refine pl ?_; refine blk_far ?_ NB286_313.out _; exact bx BK286.out) hb); replace BK298 := As.mk (blk_below (g := gb298) (o := .cells #[.slice Ao40 t287.length co40, .slice Ao45 t290.length co45, .slice Ao46 t293.length co46, .int .i64 t296, .int .i64 t297] 34 (0, 0)) (by refine pl ?_; refine blk_far ?_ NB298_313.out _; refine pl ?_; refine blk_far ?_ NB298_313.out _; refine pl ?_; refine blk_far ?_ NB298_313.out _; refine pl ?_; refine blk_far ?_ NB298_313.out _; refine pl ?_; refine blk_far ?_ NB298_313.out _; exact bx BK298.out) hb); replace BK313 := As.mk (blk_below (g := gb313) (o := .cells #[.slice Ao53 t301.length co53, .slice Ao55 t304.length co55, .slice Ao57 t307.length co57, .int .i64 t310, .int .i64 t311] 34 (0, 0)) (by refine pl ?_; refine blk_put (cs := #[.slice Ao53 t301.length co53, .slice Ao55 t304.length co55, .slice Ao57 t307.length co57, .int .i64 t310, .int .i64 0]) ?_ 4 _ rfl; refine pl ?_; refine blk_put (cs := #[.slice Ao53 t301.length co53, .slice Ao55 t304.length co55, .slice Ao57 t307.length co57, .int .i64 0, .int .i64 0]) ?_ 3 _ rfl; refine pl ?_; refine blk_put (cs := #[.slice Ao53 t301.length co53, .slice Ao55 t304.length co55, .slice none 0 0, .int .i64 0, .int .i64 0]) ?_ 2 _ rfl; refine pl ?_; refine blk_put (cs := #[.slice Ao53 t301.length co53, .slice none 0 0, .slice none 0 0, .int .i64 0, .int .i64 0]) ?_ 1 _ rfl; refine pl ?_; refine blk_put (cs := #[.slice none 0 0, .slice none 0 0, .slice none 0 0, .int .i64 0, .int .i64 0]) ?_ 0 _ rfl; exact bx BK313.out) hb); replace HB := As.mk (below_step (be w) hb); (try clear hb); (try clear hb2); (try clear hk); (try clear hi)))
     go_meet
     case rel => exact ⟨_, ((t312 != t285)), (by first | rfl | (simp; done) | (simp [*]; done)), H', ⟨by have := HJ3.out; first | omega | exact Nat.le_refl _⟩, ⟨by (with_reducible repeat (first | apply Kd.R_alloc | apply Kd.R_drewN | apply Kd.R_drew)); exact Kd.R_mono HO276.out (fun _ hk => ⟨hk.2.1, hk.2.2⟩)⟩, ⟨by (with_reducible repeat (first | apply Kd.R_alloc | apply Kd.R_drewN | apply Kd.R_drew)); exact Kd.R_mono HO279.out (fun _ hk => ⟨hk.2.2.1, ⟨hk.2.2.2.1, ⟨hk.2.2.2.2.1, ⟨hk.2.2.2.2.2.1, hk.2.2.2.2.2.2⟩⟩⟩⟩)⟩, ⟨by (with_reducible repeat (first | apply Kd.R_alloc | apply Kd.R_drewN | apply Kd.R_drew)); exact Kd.R_mono HO282.out (fun _ hk => ⟨hk.2.2.1, ⟨hk.2.2.2.1, ⟨hk.2.2.2.2.1, ⟨hk.2.2.2.2.2.1, hk.2.2.2.2.2.2⟩⟩⟩⟩)⟩, ⟨by (with_reducible repeat (first | apply Kd.R_alloc | apply Kd.R_drewN | apply Kd.R_drew)); exact Kd.R_mono HO289.out (fun _ hk => ⟨hk.2.1, hk.2.2⟩)⟩, ⟨by (with_reducible repeat (first | apply Kd.R_alloc | apply Kd.R_drewN | apply Kd.R_drew)); exact Kd.R_mono HO292.out (fun _ hk => ⟨hk.2.2.1, ⟨hk.2.2.2.1, ⟨hk.2.2.2.2.1, ⟨hk.2.2.2.2.2.1, hk.2.2.2.2.2.2⟩⟩⟩⟩)⟩, ⟨by (with_reducible repeat (first | apply Kd.R_alloc | apply Kd.R_drewN | apply Kd.R_drew)); exact Kd.R_mono HO295.out (fun _ hk => ⟨hk.2.2.1, ⟨hk.2.2.2.1, ⟨hk.2.2.2.2.1, ⟨hk.2.2.2.2.2.1, hk.2.2.2.2.2.2⟩⟩⟩⟩)⟩, ⟨by (with_reducible repeat (first | apply Kd.R_alloc | apply Kd.R_drewN | apply Kd.R_drew)); exact Kd.R_mono HO303.out (fun _ hk => ⟨hk.2.1, hk.2.2⟩)⟩, ⟨by (with_reducible repeat (first | apply Kd.R_alloc | apply Kd.R_drewN | apply Kd.R_drew)); exact Kd.R_mono HO306.out (fun _ hk => ⟨hk.2.2.1, ⟨hk.2.2.2.1, ⟨hk.2.2.2.2.1, ⟨hk.2.2.2.2.2.1, hk.2.2.2.2.2.2⟩⟩⟩⟩)⟩, ⟨by (with_reducible repeat (first | apply Kd.R_alloc | apply Kd.R_drewN | apply Kd.R_drew)); exact Kd.R_mono HO309.out (fun _ hk => ⟨hk.2.2.1, ⟨hk.2.2.2.1, ⟨hk.2.2.2.2.1, ⟨hk.2.2.2.2.2.1, hk.2.2.2.2.2.2⟩⟩⟩⟩)⟩, ⟨bx BK258.out⟩, ⟨bx BK259.out⟩, ⟨bx BK286.out⟩, ⟨bx BK298.out⟩, ⟨bx BK313.out⟩, ⟨be w⟩⟩
    replace c62 := Bool.eq_false_iff.mpr c62
    subst c62
    rw [if_neg (show ¬ (false = true) by decide)] at H
    have H' := As.mk H
    clear H
    have hnb73 := NB313_258.out
    have hnc73 := NB258_313.out
    have hnb74 := NB313_259.out
    have hnc74 := NB259_313.out
    have hnb75 := NB313_286.out
    have hnc75 := NB286_313.out
    have hnb76 := NB313_298.out
    have hnc76 := NB298_313.out
    obtain ⟨hcz77_0, hcz77_1, hcz77_2, hcz77_3, hcz77_4, hfz77_0, hfz77_1, hfz77_2, hfz77_3, hfz77_4⟩ := cl5 BK313.out
    have hnb78 := NB286_258.out
    have hnc78 := NB258_286.out
    have hnb79 := NB286_259.out
    have hnc79 := NB259_286.out
    have hnb80 := NB286_298.out
    have hnc80 := NB298_286.out
    obtain ⟨hcz81_0, hcz81_1, hcz81_2, hcz81_3, hcz81_4, hfz81_0, hfz81_1, hfz81_2, hfz81_3, hfz81_4⟩ := cl5 BK286.out
    go_wp2_with (first | ((with_reducible refine gate_callee (f := 27) rfl ?_); refine goesL_ (some 40) rfl rfl Try.func27 (by kernel_rfl) rfl #[.agg #[.slice Ao53 t301.length co53, .slice Ao55 t304.length co55, .slice Ao57 t307.length co57, .int .i64 t310, .int .i64 t311], .agg #[.slice Ao27 t274.length co27, .slice Ao29 t277.length co29, .slice Ao31 t280.length co31, .int .i64 t283, .int .i64 t284]] rfl (by (try simp only [lm]); first | done | rfl | (simp only [List.length_drop, List.length_take]; rfl)) ?_; (with_reducible refine (laws_eqMemory.calls kj3 _ _ t301 _ _ t304 _ _ t307 t310 t311 _ _ t274 _ _ t277 _ _ t280 t283 t284 false _ ?side1 ?side2 ?side3 ?side4 ?side5 ?side6 ?side7 ?side8 ?side9 ?side10 ?side11 ?side12 A61.out).mono ?_); (case side1 => refine (Kd.R_reads' (e := 93) (base := w.heap.size) (ok := fun k_ => (some k_ ≠ (v262 : Value).ownBlock ∧ (some k_ ≠ (.slice Ao27 t274.length co27 : Value).ownBlock ∧ some k_ ≠ (.slice Ao40 t287.length co40 : Value).ownBlock))) (n := t301.length) (c := co53) ?_).2.2; exact (by (with_reducible repeat (first | apply Kd.R_alloc | apply Kd.R_drewN | apply Kd.R_drew)); (have z_ := R_far5 HO303.out BK313.out (by decide)); with_reducible exact z_ _ _ _ _ _)); (case side2 => exact (Kd.R_reads' HO303.out).2.1); (case side3 => refine (Kd.R_reads' (e := 3) (base := w.heap.size) (ok := fun k_ => (some k_ ≠ (v265 : Value).ownBlock ∧ (some k_ ≠ (v268 : Value).ownBlock ∧ (some k_ ≠ (.slice Ao29 t277.length co29 : Value).ownBlock ∧ (some k_ ≠ (.slice Ao31 t280.length co31 : Value).ownBlock ∧ (some k_ ≠ (.slice Ao45 t290.length co45 : Value).ownBlock ∧ (some k_ ≠ (.slice Ao46 t293.length co46 : Value).ownBlock ∧ some k_ ≠ (.slice Ao57 t307.length co57 : Value).ownBlock))))))) (n := t304.length) (c := co55) ?_).2.2; exact (by (with_reducible repeat (first | apply Kd.R_alloc | apply Kd.R_drewN | apply Kd.R_drew)); (have z_ := R_far5 HO306.out BK313.out (by decide)); with_reducible exact z_ _ _ _ _ _)); (case side4 => exact (Kd.R_reads' HO306.out).2.1); (case side5 => refine (Kd.R_reads' (e := 3) (base := w.heap.size) (ok := fun k_ => (some k_ ≠ (v265 : Value).ownBlock ∧ (some k_ ≠ (v268 : Value).ownBlock ∧ (some k_ ≠ (.slice Ao29 t277.length co29 : Value).ownBlock ∧ (some k_ ≠ (.slice Ao31 t280.length co31 : Value).ownBlock ∧ (some k_ ≠ (.slice Ao45 t290.length co45 : Value).ownBlock ∧ (some k_ ≠ (.slice Ao46 t293.length co46 : Value).ownBlock ∧ some k_ ≠ (.slice Ao55 t304.length co55 : Value).ownBlock))))))) (n := t307.length) (c := co57) ?_).2.2; exact (by (with_reducible repeat (first | apply Kd.R_alloc | apply Kd.R_drewN | apply Kd.R_drew)); (have z_ := R_far5 HO309.out BK313.out (by decide)); with_reducible exact z_ _ _ _ _ _)); (case side6 => exact (Kd.R_reads' HO309.out).2.1); (case side7 => refine (Kd.R_reads' (e := 93) (base := w.heap.size) (ok := fun k_ => (some k_ ≠ (v262 : Value).ownBlock ∧ (some k_ ≠ (.slice Ao40 t287.length co40 : Value).ownBlock ∧ some k_ ≠ (.slice Ao53 t301.length co53 : Value).ownBlock))) (n := t274.length) (c := co27) ?_).2.2; exact (by (with_reducible repeat (first | apply Kd.R_alloc | apply Kd.R_drewN | apply Kd.R_drew)); (have z_ := R_far5 HO276.out BK313.out (by decide)); with_reducible exact z_ _ _ _ _ _)); (case side8 => exact (Kd.R_reads' HO276.out).2.1); (case side9 => refine (Kd.R_reads' (e := 3) (base := w.heap.size) (ok := fun k_ => (some k_ ≠ (v265 : Value).ownBlock ∧ (some k_ ≠ (v268 : Value).ownBlock ∧ (some k_ ≠ (.slice Ao31 t280.length co31 : Value).ownBlock ∧ (some k_ ≠ (.slice Ao45 t290.length co45 : Value).ownBlock ∧ (some k_ ≠ (.slice Ao46 t293.length co46 : Value).ownBlock ∧ (some k_ ≠ (.slice Ao55 t304.length co55 : Value).ownBlock ∧ some k_ ≠ (.slice Ao57 t307.length co57 : Value).ownBlock))))))) (n := t277.length) (c := co29) ?_).2.2; exact (by (with_reducible repeat (first | apply Kd.R_alloc | apply Kd.R_drewN | apply Kd.R_drew)); (have z_ := R_far5 HO279.out BK313.out (by decide)); with_reducible exact z_ _ _ _ _ _)); (case side10 => exact (Kd.R_reads' HO279.out).2.1); (case side11 => refine (Kd.R_reads' (e := 3) (base := w.heap.size) (ok := fun k_ => (some k_ ≠ (v265 : Value).ownBlock ∧ (some k_ ≠ (v268 : Value).ownBlock ∧ (some k_ ≠ (.slice Ao29 t277.length co29 : Value).ownBlock ∧ (some k_ ≠ (.slice Ao45 t290.length co45 : Value).ownBlock ∧ (some k_ ≠ (.slice Ao46 t293.length co46 : Value).ownBlock ∧ (some k_ ≠ (.slice Ao55 t304.length co55 : Value).ownBlock ∧ some k_ ≠ (.slice Ao57 t307.length co57 : Value).ownBlock))))))) (n := t280.length) (c := co31) ?_).2.2; exact (by (with_reducible repeat (first | apply Kd.R_alloc | apply Kd.R_drewN | apply Kd.R_drew)); (have z_ := R_far5 HO282.out BK313.out (by decide)); with_reducible exact z_ _ _ _ _ _)); (case side12 => exact (Kd.R_reads' HO282.out).2.1); rintro e w82 ⟨rfl, hb⟩; refine ⟨_, rfl, ?_⟩; replace HO263 := As.mk (Kd.R_below (by (with_reducible repeat (first | apply Kd.R_alloc | apply Kd.R_drewN | apply Kd.R_drew)); (have z_ := R_far5 HO263.out BK313.out (by decide)); with_reducible exact z_ _ _ _ _ _) hb); replace HO266 := As.mk (Kd.R_below (by (with_reducible repeat (first | apply Kd.R_alloc | apply Kd.R_drewN | apply Kd.R_drew)); (have z_ := R_far5 HO266.out BK313.out (by decide)); with_reducible exact z_ _ _ _ _ _) hb); replace HO269 := As.mk (Kd.R_below (by (with_reducible repeat (first | apply Kd.R_alloc | apply Kd.R_drewN | apply Kd.R_drew)); (have z_ := R_far5 HO269.out BK313.out (by decide)); with_reducible exact z_ _ _ _ _ _) hb); replace HO276 := As.mk (Kd.R_below (by (with_reducible repeat (first | apply Kd.R_alloc | apply Kd.R_drewN | apply Kd.R_drew)); (have z_ := R_far5 HO276.out BK313.out (by decide)); with_reducible exact z_ _ _ _ _ _) hb); replace HO279 := As.mk (Kd.R_below (by (with_reducible repeat (first | apply Kd.R_alloc | apply Kd.R_drewN | apply Kd.R_drew)); (have z_ := R_far5 HO279.out BK313.out (by decide)); with_reducible exact z_ _ _ _ _ _) hb); replace HO282 := As.mk (Kd.R_below (by (with_reducible repeat (first | apply Kd.R_alloc | apply Kd.R_drewN | apply Kd.R_drew)); (have z_ := R_far5 HO282.out BK313.out (by decide)); with_reducible exact z_ _ _ _ _ _) hb); replace HO289 := As.mk (Kd.R_below (by (with_reducible repeat (first | apply Kd.R_alloc | apply Kd.R_drewN | apply Kd.R_drew)); (have z_ := R_far5 HO289.out BK313.out (by decide)); with_reducible exact z_ _ _ _ _ _) hb); replace HO292 := As.mk (Kd.R_below (by (with_reducible repeat (first | apply Kd.R_alloc | apply Kd.R_drewN | apply Kd.R_drew)); (have z_ := R_far5 HO292.out BK313.out (by decide)); with_reducible exact z_ _ _ _ _ _) hb); replace HO295 := As.mk (Kd.R_below (by (with_reducible repeat (first | apply Kd.R_alloc | apply Kd.R_drewN | apply Kd.R_drew)); (have z_ := R_far5 HO295.out BK313.out (by decide)); with_reducible exact z_ _ _ _ _ _) hb); replace HO303 := As.mk (Kd.R_below (by (with_reducible repeat (first | apply Kd.R_alloc | apply Kd.R_drewN | apply Kd.R_drew)); (have z_ := R_far5 HO303.out BK313.out (by decide)); with_reducible exact z_ _ _ _ _ _) hb); replace HO306 := As.mk (Kd.R_below (by (with_reducible repeat (first | apply Kd.R_alloc | apply Kd.R_drewN | apply Kd.R_drew)); (have z_ := R_far5 HO306.out BK313.out (by decide)); with_reducible exact z_ _ _ _ _ _) hb); replace HO309 := As.mk (Kd.R_below (by (with_reducible repeat (first | apply Kd.R_alloc | apply Kd.R_drewN | apply Kd.R_drew)); (have z_ := R_far5 HO309.out BK313.out (by decide)); with_reducible exact z_ _ _ _ _ _) hb); replace BK258 := As.mk (blk_below (g := gb258) (o := .cells #[.slice A0_0 l0_0.length c0_0, .slice A0_1 l0_1.length c0_1, .slice A0_2 l0_2.length c0_2, .int .i64 a0_3, .int .i64 a0_4] 47 (0, 0)) (by refine pl ?_; refine blk_far ?_ NB258_313.out _; refine pl ?_; refine blk_far ?_ NB258_313.out _; refine pl ?_; refine blk_far ?_ NB258_313.out _; refine pl ?_; refine blk_far ?_ NB258_313.out _; refine pl ?_; refine blk_far ?_ NB258_313.out _; exact bx BK258.out) hb); replace BK259 := As.mk (blk_below (g := gb259) (o := .cells #[.int .i64 a1_0, .int .i64 a1_1] 48 (0, 0)) (by refine pl ?_; refine blk_far ?_ NB259_313.out _; refine pl ?_; refine blk_far ?_ NB259_313.out _; refine pl ?_; refine blk_far ?_ NB259_313.out _; refine pl ?_; refine blk_far ?_ NB259_313.out _; refine pl ?_; refine blk_far ?_ NB259_313.out _; exact bx BK259.out) hb); replace BK286 := As.mk (blk_below (g := gb286) (o := .cells #[.slice Ao27 t274.length co27, .slice Ao29 t277.length co29, .slice Ao31 t280.length co31, .int .i64 t283, .int .i64 t284] 34 (0, 0)) (by refine pl ?_; refine blk_far ?_ NB286_313.out _; refine pl ?_; refine blk_far ?_ NB286_313.out _; refine pl ?_; refine blk_far ?_ NB286_313.out _; refine pl ?_; refine blk_far ?_ NB286_313.out _; refine pl ?_; refine blk_far ?_ NB286_313.out _; exact bx BK286.out) hb); replace BK298 := As.mk (blk_below (g := gb298) (o := .cells #[.slice Ao40 t287.length co40, .slice Ao45 t290.length co45, .slice Ao46 t293.length co46, .int .i64 t296, .int .i64 t297] 34 (0, 0)) (by refine pl ?_; refine blk_far ?_ NB298_313.out _; refine pl ?_; refine blk_far ?_ NB298_313.out _; refine pl ?_; refine blk_far ?_ NB298_313.out _; refine pl ?_; refine blk_far ?_ NB298_313.out _; refine pl ?_; refine blk_far ?_ NB298_313.out _; exact bx BK298.out) hb); replace BK313 := As.mk (blk_below (g := gb313) (o := .cells #[.slice Ao53 t301.length co53, .slice Ao55 t304.length co55, .slice Ao57 t307.length co57, .int .i64 t310, .int .i64 t311] 34 (0, 0)) (by refine pl ?_; refine blk_put (cs := #[.slice Ao53 t301.length co53, .slice Ao55 t304.length co55, .slice Ao57 t307.length co57, .int .i64 t310, .int .i64 0]) ?_ 4 _ rfl; refine pl ?_; refine blk_put (cs := #[.slice Ao53 t301.length co53, .slice Ao55 t304.length co55, .slice Ao57 t307.length co57, .int .i64 0, .int .i64 0]) ?_ 3 _ rfl; refine pl ?_; refine blk_put (cs := #[.slice Ao53 t301.length co53, .slice Ao55 t304.length co55, .slice none 0 0, .int .i64 0, .int .i64 0]) ?_ 2 _ rfl; refine pl ?_; refine blk_put (cs := #[.slice Ao53 t301.length co53, .slice none 0 0, .slice none 0 0, .int .i64 0, .int .i64 0]) ?_ 1 _ rfl; refine pl ?_; refine blk_put (cs := #[.slice none 0 0, .slice none 0 0, .slice none 0 0, .int .i64 0, .int .i64 0]) ?_ 0 _ rfl; exact bx BK313.out) hb); replace HB := As.mk (below_step (be w) hb); (try clear hb); (try clear hb2); (try clear hk); (try clear hi)))
    go_meet
    case rel => exact ⟨_, (true), (by first | rfl | (simp; done) | (simp [*]; done)), H', ⟨by have := HJ3.out; first | omega | exact Nat.le_refl _⟩, ⟨by (with_reducible repeat (first | apply Kd.R_alloc | apply Kd.R_drewN | apply Kd.R_drew)); exact Kd.R_mono HO276.out (fun _ hk => ⟨hk.2.1, hk.2.2⟩)⟩, ⟨by (with_reducible repeat (first | apply Kd.R_alloc | apply Kd.R_drewN | apply Kd.R_drew)); exact Kd.R_mono HO279.out (fun _ hk => ⟨hk.2.2.1, ⟨hk.2.2.2.1, ⟨hk.2.2.2.2.1, ⟨hk.2.2.2.2.2.1, hk.2.2.2.2.2.2⟩⟩⟩⟩)⟩, ⟨by (with_reducible repeat (first | apply Kd.R_alloc | apply Kd.R_drewN | apply Kd.R_drew)); exact Kd.R_mono HO282.out (fun _ hk => ⟨hk.2.2.1, ⟨hk.2.2.2.1, ⟨hk.2.2.2.2.1, ⟨hk.2.2.2.2.2.1, hk.2.2.2.2.2.2⟩⟩⟩⟩)⟩, ⟨by (with_reducible repeat (first | apply Kd.R_alloc | apply Kd.R_drewN | apply Kd.R_drew)); exact Kd.R_mono HO289.out (fun _ hk => ⟨hk.2.1, hk.2.2⟩)⟩, ⟨by (with_reducible repeat (first | apply Kd.R_alloc | apply Kd.R_drewN | apply Kd.R_drew)); exact Kd.R_mono HO292.out (fun _ hk => ⟨hk.2.2.1, ⟨hk.2.2.2.1, ⟨hk.2.2.2.2.1, ⟨hk.2.2.2.2.2.1, hk.2.2.2.2.2.2⟩⟩⟩⟩)⟩, ⟨by (with_reducible repeat (first | apply Kd.R_alloc | apply Kd.R_drewN | apply Kd.R_drew)); exact Kd.R_mono HO295.out (fun _ hk => ⟨hk.2.2.1, ⟨hk.2.2.2.1, ⟨hk.2.2.2.2.1, ⟨hk.2.2.2.2.2.1, hk.2.2.2.2.2.2⟩⟩⟩⟩)⟩, ⟨by (with_reducible repeat (first | apply Kd.R_alloc | apply Kd.R_drewN | apply Kd.R_drew)); exact Kd.R_mono HO303.out (fun _ hk => ⟨hk.2.1, hk.2.2⟩)⟩, ⟨by (with_reducible repeat (first | apply Kd.R_alloc | apply Kd.R_drewN | apply Kd.R_drew)); exact Kd.R_mono HO306.out (fun _ hk => ⟨hk.2.2.1, ⟨hk.2.2.2.1, ⟨hk.2.2.2.2.1, ⟨hk.2.2.2.2.2.1, hk.2.2.2.2.2.2⟩⟩⟩⟩)⟩, ⟨by (with_reducible repeat (first | apply Kd.R_alloc | apply Kd.R_drewN | apply Kd.R_drew)); exact Kd.R_mono HO309.out (fun _ hk => ⟨hk.2.2.1, ⟨hk.2.2.2.1, ⟨hk.2.2.2.2.1, ⟨hk.2.2.2.2.2.1, hk.2.2.2.2.2.2⟩⟩⟩⟩)⟩, ⟨bx BK258.out⟩, ⟨bx BK259.out⟩, ⟨bx BK286.out⟩, ⟨bx BK298.out⟩, ⟨bx BK313.out⟩, ⟨be w⟩⟩
   case rest =>
    clear HC17
    obtain ⟨kq, x46_16, rfl, HA, HJ16, HO_287000, HO_287001, HO_287002, HO_299000, HO_299001, HO_299002, HO_314000, HO_314001, HO_314002, BK258, BK259, BK286, BK298, BK313, HB⟩ := hcut
    cases kq with
    | zero => exact absurd HA.out (by simp [laws_FnExactLooked.j1])
    | succ kj16 =>
     have H := HA.out
     clear HA
     simp only [laws_FnExactLooked.j1] at H
     have HC83 := As.mk H
     clear H
     go_upto_if 46 with (fail)
     go_cut [] (fun wc => ∃ (kq : Nat), As (laws_FnExactLooked.j2 kq t285 t312 l0_0 l0_1 l0_2 a0_3 a0_4 a1_0 a1_1 t274 t277 t280 t283 t284 t287 t290 t293 t296 t297 t301 t304 t307 t310 t311 = some r) ∧ As (kq ≤ kj16) ∧ As (Kd.R k93 93 wc w.heap.size (fun k_ => some k_ ≠ ((.slice Ao40 t287.length co40) : Value).ownBlock ∧ some k_ ≠ ((.slice Ao53 t301.length co53) : Value).ownBlock) (.slice Ao27 t274.length co27) t274) ∧ As (Kd.R (Kd.int .i64) 3 wc w.heap.size (fun k_ => some k_ ≠ ((.slice Ao31 t280.length co31) : Value).ownBlock ∧ some k_ ≠ ((.slice Ao45 t290.length co45) : Value).ownBlock ∧ some k_ ≠ ((.slice Ao46 t293.length co46) : Value).ownBlock ∧ some k_ ≠ ((.slice Ao55 t304.length co55) : Value).ownBlock ∧ some k_ ≠ ((.slice Ao57 t307.length co57) : Value).ownBlock) (.slice Ao29 t277.length co29) t277) ∧ As (Kd.R (Kd.int .i64) 3 wc w.heap.size (fun k_ => some k_ ≠ ((.slice Ao29 t277.length co29) : Value).ownBlock ∧ some k_ ≠ ((.slice Ao45 t290.length co45) : Value).ownBlock ∧ some k_ ≠ ((.slice Ao46 t293.length co46) : Value).ownBlock ∧ some k_ ≠ ((.slice Ao55 t304.length co55) : Value).ownBlock ∧ some k_ ≠ ((.slice Ao57 t307.length co57) : Value).ownBlock) (.slice Ao31 t280.length co31) t280) ∧ As (Kd.R k93 93 wc w.heap.size (fun k_ => some k_ ≠ ((.slice Ao27 t274.length co27) : Value).ownBlock ∧ some k_ ≠ ((.slice Ao53 t301.length co53) : Value).ownBlock) (.slice Ao40 t287.length co40) t287) ∧ As (Kd.R (Kd.int .i64) 3 wc w.heap.size (fun k_ => some k_ ≠ ((.slice Ao29 t277.length co29) : Value).ownBlock ∧ some k_ ≠ ((.slice Ao31 t280.length co31) : Value).ownBlock ∧ some k_ ≠ ((.slice Ao46 t293.length co46) : Value).ownBlock ∧ some k_ ≠ ((.slice Ao55 t304.length co55) : Value).ownBlock ∧ some k_ ≠ ((.slice Ao57 t307.length co57) : Value).ownBlock) (.slice Ao45 t290.length co45) t290) ∧ As (Kd.R (Kd.int .i64) 3 wc w.heap.size (fun k_ => some k_ ≠ ((.slice Ao29 t277.length co29) : Value).ownBlock ∧ some k_ ≠ ((.slice Ao31 t280.length co31) : Value).ownBlock ∧ some k_ ≠ ((.slice Ao45 t290.length co45) : Value).ownBlock ∧ some k_ ≠ ((.slice Ao55 t304.length co55) : Value).ownBlock ∧ some k_ ≠ ((.slice Ao57 t307.length co57) : Value).ownBlock) (.slice Ao46 t293.length co46) t293) ∧ As (Kd.R k93 93 wc w.heap.size (fun k_ => some k_ ≠ ((.slice Ao27 t274.length co27) : Value).ownBlock ∧ some k_ ≠ ((.slice Ao40 t287.length co40) : Value).ownBlock) (.slice Ao53 t301.length co53) t301) ∧ As (Kd.R (Kd.int .i64) 3 wc w.heap.size (fun k_ => some k_ ≠ ((.slice Ao29 t277.length co29) : Value).ownBlock ∧ some k_ ≠ ((.slice Ao31 t280.length co31) : Value).ownBlock ∧ some k_ ≠ ((.slice Ao45 t290.length co45) : Value).ownBlock ∧ some k_ ≠ ((.slice Ao46 t293.length co46) : Value).ownBlock ∧ some k_ ≠ ((.slice Ao57 t307.length co57) : Value).ownBlock) (.slice Ao55 t304.length co55) t304) ∧ As (Kd.R (Kd.int .i64) 3 wc w.heap.size (fun k_ => some k_ ≠ ((.slice Ao29 t277.length co29) : Value).ownBlock ∧ some k_ ≠ ((.slice Ao31 t280.length co31) : Value).ownBlock ∧ some k_ ≠ ((.slice Ao45 t290.length co45) : Value).ownBlock ∧ some k_ ≠ ((.slice Ao46 t293.length co46) : Value).ownBlock ∧ some k_ ≠ ((.slice Ao55 t304.length co55) : Value).ownBlock) (.slice Ao57 t307.length co57) t307) ∧ As (wc.heap[gb258]? = some (.cells #[(.slice A0_0 l0_0.length c0_0), (.slice A0_1 l0_1.length c0_1), (.slice A0_2 l0_2.length c0_2), .int .i64 a0_3, .int .i64 a0_4] 47 (0, 0))) ∧ As (wc.heap[gb259]? = some (.cells #[.int .i64 a1_0, .int .i64 a1_1] 48 (0, 0))) ∧ As (wc.heap[gb286]? = some (.cells #[(.slice Ao27 t274.length co27), (.slice Ao29 t277.length co29), (.slice Ao31 t280.length co31), .int .i64 t283, .int .i64 t284] 34 (0, 0))) ∧ As (wc.heap[gb298]? = some (.cells #[(.slice Ao40 t287.length co40), (.slice Ao45 t290.length co45), (.slice Ao46 t293.length co46), .int .i64 t296, .int .i64 t297] 34 (0, 0))) ∧ As (wc.heap[gb313]? = some (.cells #[(.slice Ao53 t301.length co53), (.slice Ao55 t304.length co55), (.slice Ao57 t307.length co57), .int .i64 t310, .int .i64 t311] 34 (0, 0))) ∧ As (Below w.heap.size w wc))
     case first =>
      have H := HC83.out
      clear HC83
      by_cases c84 : x46_16 = true
      ·
       subst c84
       rw [if_pos rfl] at H
       exact absurd H (by rw [hrt.out]; simp)
      replace c84 := Bool.eq_false_iff.mpr c84
      subst c84
      rw [if_neg (show ¬ (false = true) by decide)] at H
      have H' := As.mk H
      clear H
      go_wp2
      go_meet
      case rel => exact ⟨_, H', ⟨by have := HJ3.out; have := HJ16.out; first | omega | exact Nat.le_refl _⟩, ⟨by (with_reducible repeat (first | apply Kd.R_alloc | apply Kd.R_drewN | apply Kd.R_drew)); exact HO_287000.out⟩, ⟨by (with_reducible repeat (first | apply Kd.R_alloc | apply Kd.R_drewN | apply Kd.R_drew)); exact HO_287001.out⟩, ⟨by (with_reducible repeat (first | apply Kd.R_alloc | apply Kd.R_drewN | apply Kd.R_drew)); exact HO_287002.out⟩, ⟨by (with_reducible repeat (first | apply Kd.R_alloc | apply Kd.R_drewN | apply Kd.R_drew)); exact HO_299000.out⟩, ⟨by (with_reducible repeat (first | apply Kd.R_alloc | apply Kd.R_drewN | apply Kd.R_drew)); exact HO_299001.out⟩, ⟨by (with_reducible repeat (first | apply Kd.R_alloc | apply Kd.R_drewN | apply Kd.R_drew)); exact HO_299002.out⟩, ⟨by (with_reducible repeat (first | apply Kd.R_alloc | apply Kd.R_drewN | apply Kd.R_drew)); exact HO_314000.out⟩, ⟨by (with_reducible repeat (first | apply Kd.R_alloc | apply Kd.R_drewN | apply Kd.R_drew)); exact HO_314001.out⟩, ⟨by (with_reducible repeat (first | apply Kd.R_alloc | apply Kd.R_drewN | apply Kd.R_drew)); exact HO_314002.out⟩, ⟨bx BK258.out⟩, ⟨bx BK259.out⟩, ⟨bx BK286.out⟩, ⟨bx BK298.out⟩, ⟨bx BK313.out⟩, ⟨be w⟩⟩
     case rest =>
      clear HC83
      obtain ⟨kq, HA, HJ82, HO_287000, HO_287001, HO_287002, HO_299000, HO_299001, HO_299002, HO_314000, HO_314001, HO_314002, BK258, BK259, BK286, BK298, BK313, HB⟩ := hcut
      cases kq with
      | zero => exact absurd HA.out (by simp [laws_FnExactLooked.j2])
      | succ kj82 =>
       have H := HA.out
       clear HA
       simp only [laws_FnExactLooked.j2] at H
       obtain ⟨⟨t315, t318, t321, t324, t325⟩, A850, H⟩ := Option.bind_eq_some_iff.mp H
       try dsimp only at H
       have A85 := As.mk A850
       clear A850
       obtain ⟨t326, A860, H⟩ := Option.bind_eq_some_iff.mp H
       try dsimp only at H
       have A86 := As.mk A860
       clear A860
       have HC87 := As.mk H
       clear H
       try go_wp2
       replace HO_287000 := As.mk (Kd.R_drew HO_287000.out)
       replace HO_287001 := As.mk (Kd.R_drew HO_287001.out)
       replace HO_287002 := As.mk (Kd.R_drew HO_287002.out)
       replace HO_299000 := As.mk (Kd.R_drew HO_299000.out)
       replace HO_299001 := As.mk (Kd.R_drew HO_299001.out)
       replace HO_299002 := As.mk (Kd.R_drew HO_299002.out)
       replace HO_314000 := As.mk (Kd.R_drew HO_314000.out)
       replace HO_314001 := As.mk (Kd.R_drew HO_314001.out)
       replace HO_314002 := As.mk (Kd.R_drew HO_314002.out)
       replace BK258 := As.mk (blk_drew BK258.out)
       replace BK259 := As.mk (blk_drew BK259.out)
       replace BK286 := As.mk (blk_drew BK286.out)
       replace BK298 := As.mk (blk_drew BK298.out)
       replace BK313 := As.mk (blk_drew BK313.out)
       replace HB := As.mk (below_drew1 HB.out)
       refine start_ (n := 5) (S := fun w' => w'.cell? ⟨gb298, 0, none⟩ = some (.slice Ao40 t287.length co40) ∧ w'.cell? ⟨gb298, 1, none⟩ = some (.slice Ao45 t290.length co45) ∧ w'.cell? ⟨gb298, 2, none⟩ = some (.slice Ao46 t293.length co46) ∧ w'.cell? ⟨gb298, 3, none⟩ = some (.int .i64 t296) ∧ w'.cell? ⟨gb298, 4, none⟩ = some (.int .i64 t297) ∧ w'.cell? ⟨gb258, 0, none⟩ = some (.slice A0_0 l0_0.length c0_0) ∧ w'.cell? ⟨gb258, 1, none⟩ = some (.slice A0_1 l0_1.length c0_1) ∧ w'.cell? ⟨gb258, 2, none⟩ = some (.slice A0_2 l0_2.length c0_2) ∧ w'.cell? ⟨gb258, 3, none⟩ = some (.int .i64 a0_3) ∧ w'.cell? ⟨gb258, 4, none⟩ = some (.int .i64 a0_4)) (ds := []) #[O, O, O, O, O] (by kernel_rfl) rfl rfl ⟨(blk_cell BK298.out 0).trans rfl, (blk_cell BK298.out 1).trans rfl, (blk_cell BK298.out 2).trans rfl, (blk_cell BK298.out 3).trans rfl, (blk_cell BK298.out 4).trans rfl, (blk_cell BK258.out 0).trans rfl, (blk_cell BK258.out 1).trans rfl, (blk_cell BK258.out 2).trans rfl, (blk_cell BK258.out 3).trans rfl, (blk_cell BK258.out 4).trans rfl⟩ (fun hHeld => ?_)
       generalize wc.drew = w88 at HO_287000 HO_287001 HO_287002 HO_299000 HO_299001 HO_299002 HO_314000 HO_314001 HO_314002 BK258 BK259 BK286 BK298 BK313 HB hHeld ⊢
       refine take_ (i := 0) (N := some 47) (v := ?_) (a' := ?_) #[I, O, O, O, O] rfl rfl (by kernel_rfl) (fun _ _ _ h => h) (Or.inl ⟨by rfl, ?_⟩) hHeld ?_ ?_
       rotate_left
       ·
        rintro w' ⟨s0, s1, s2, s3, s4, s5, s6, s7, s8, s9⟩
        go_simp
        with_reducible rfl
       rotate_left
       ·
        simp only [pk, i64_w, i32_w]
        rfl
       refine take_ (i := 1) (N := some 48) (v := ?_) (a' := ?_) #[I, I, O, O, O] rfl rfl (by kernel_rfl) (fun _ _ _ h => h) (Or.inl ⟨by rfl, ?_⟩) hHeld ?_ ?_
       rotate_left
       ·
        rintro w' ⟨s0, s1, s2, s3, s4, s5, s6, s7, s8, s9⟩
        go_simp
        with_reducible rfl
       rotate_left
       ·
        simp only [pk, i64_w, i32_w]
        rfl
       refine one_ (i := 2) (N := some 49) #[I, I, I, O, O] rfl rfl (by kernel_rfl) (by decide) (fun K hK => ?_)
       refine goes_ Try.func25 (by kernel_rfl) rfl #[.agg #[.slice A0_0 l0_0.length c0_0, .slice A0_1 l0_1.length c0_1, .slice A0_2 l0_2.length c0_2, .int .i64 a0_3, .int .i64 a0_4]] (by rfl) rfl rfl (by (try simp only [lm]); first | done | rfl | (simp only [List.length_drop, List.length_take]; rfl)) ?_
       with_reducible refine (laws_toMemory.calls kj82 _ _ l0_0 _ _ l0_1 _ _ l0_2 a0_3 a0_4 t315 t318 t321 t324 t325 _ ?side1 ?side2 ?side3 ?side4 ?side5 ?side6 A85.out).mono ?_
       (case side1 => exact Kd.C_below HR0_0.out (be w))
       (case side2 => exact HC0_0.out)
       (case side3 => exact Kd.C_below HR0_1.out (be w))
       (case side4 => exact HC0_1.out)
       (case side5 => exact Kd.C_below HR0_2.out (be w))
       (case side6 => exact HC0_2.out)
       rintro e w89 ⟨v316, v319, v322, rfl, ho0, ho1, ho2, hb⟩
       refine ⟨_, rfl, ?_⟩
       have HO317 := As.mk (Kd.R_lower (Kd.R_new' (Kd.R_new' (Kd.R_new' ho0 (Kd.R_lt (by (with_reducible repeat (first | apply Kd.R_alloc | apply Kd.R_drewN | apply Kd.R_drew)); exact HO_287000.out))) (Kd.R_lt (by (with_reducible repeat (first | apply Kd.R_alloc | apply Kd.R_drewN | apply Kd.R_drew)); exact HO_299000.out))) (Kd.R_lt (by (with_reducible repeat (first | apply Kd.R_alloc | apply Kd.R_drewN | apply Kd.R_drew)); exact HO_314000.out))) (below_size (be w)))
       replace HO_287000 := As.mk (Kd.R_elder' (by (with_reducible repeat (first | apply Kd.R_alloc | apply Kd.R_drewN | apply Kd.R_drew)); exact HO_287000.out) (Kd.R_base ho0) hb)
       replace HO_299000 := As.mk (Kd.R_elder' (by (with_reducible repeat (first | apply Kd.R_alloc | apply Kd.R_drewN | apply Kd.R_drew)); exact HO_299000.out) (Kd.R_base ho0) hb)
       replace HO_314000 := As.mk (Kd.R_elder' (by (with_reducible repeat (first | apply Kd.R_alloc | apply Kd.R_drewN | apply Kd.R_drew)); exact HO_314000.out) (Kd.R_base ho0) hb)
       have HO320 := As.mk (Kd.R_lower (Kd.R_new' (Kd.R_new' (Kd.R_new' (Kd.R_new' (Kd.R_new' (Kd.R_new' ho1 (Kd.R_lt (by (with_reducible repeat (first | apply Kd.R_alloc | apply Kd.R_drewN | apply Kd.R_drew)); exact HO_287001.out))) (Kd.R_lt (by (with_reducible repeat (first | apply Kd.R_alloc | apply Kd.R_drewN | apply Kd.R_drew)); exact HO_287002.out))) (Kd.R_lt (by (with_reducible repeat (first | apply Kd.R_alloc | apply Kd.R_drewN | apply Kd.R_drew)); exact HO_299001.out))) (Kd.R_lt (by (with_reducible repeat (first | apply Kd.R_alloc | apply Kd.R_drewN | apply Kd.R_drew)); exact HO_299002.out))) (Kd.R_lt (by (with_reducible repeat (first | apply Kd.R_alloc | apply Kd.R_drewN | apply Kd.R_drew)); exact HO_314001.out))) (Kd.R_lt (by (with_reducible repeat (first | apply Kd.R_alloc | apply Kd.R_drewN | apply Kd.R_drew)); exact HO_314002.out))) (below_size (be w)))
       have HO323 := As.mk (Kd.R_lower (Kd.R_new' (Kd.R_new' (Kd.R_new' (Kd.R_new' (Kd.R_new' (Kd.R_new' ho2 (Kd.R_lt (by (with_reducible repeat (first | apply Kd.R_alloc | apply Kd.R_drewN | apply Kd.R_drew)); exact HO_287001.out))) (Kd.R_lt (by (with_reducible repeat (first | apply Kd.R_alloc | apply Kd.R_drewN | apply Kd.R_drew)); exact HO_287002.out))) (Kd.R_lt (by (with_reducible repeat (first | apply Kd.R_alloc | apply Kd.R_drewN | apply Kd.R_drew)); exact HO_299001.out))) (Kd.R_lt (by (with_reducible repeat (first | apply Kd.R_alloc | apply Kd.R_drewN | apply Kd.R_drew)); exact HO_299002.out))) (Kd.R_lt (by (with_reducible repeat (first | apply Kd.R_alloc | apply Kd.R_drewN | apply Kd.R_drew)); exact HO_314001.out))) (Kd.R_lt (by (with_reducible repeat (first | apply Kd.R_alloc | apply Kd.R_drewN | apply Kd.R_drew)); exact HO_314002.out))) (below_size (be w)))
       replace HO_287001 := As.mk (Kd.R_mono (Kd.R_told (Kd.R_told (Kd.R_old (by (with_reducible repeat (first | apply Kd.R_alloc | apply Kd.R_drewN | apply Kd.R_drew)); exact HO_287001.out) hb) (Kd.R_base ho1)) (Kd.R_base ho2)) (fun _ h_ => h_.1))
       replace HO_287002 := As.mk (Kd.R_mono (Kd.R_told (Kd.R_told (Kd.R_old (by (with_reducible repeat (first | apply Kd.R_alloc | apply Kd.R_drewN | apply Kd.R_drew)); exact HO_287002.out) hb) (Kd.R_base ho1)) (Kd.R_base ho2)) (fun _ h_ => h_.1))
       replace HO_299001 := As.mk (Kd.R_mono (Kd.R_told (Kd.R_told (Kd.R_old (by (with_reducible repeat (first | apply Kd.R_alloc | apply Kd.R_drewN | apply Kd.R_drew)); exact HO_299001.out) hb) (Kd.R_base ho1)) (Kd.R_base ho2)) (fun _ h_ => h_.1))
       replace HO_299002 := As.mk (Kd.R_mono (Kd.R_told (Kd.R_told (Kd.R_old (by (with_reducible repeat (first | apply Kd.R_alloc | apply Kd.R_drewN | apply Kd.R_drew)); exact HO_299002.out) hb) (Kd.R_base ho1)) (Kd.R_base ho2)) (fun _ h_ => h_.1))
       replace HO_314001 := As.mk (Kd.R_mono (Kd.R_told (Kd.R_told (Kd.R_old (by (with_reducible repeat (first | apply Kd.R_alloc | apply Kd.R_drewN | apply Kd.R_drew)); exact HO_314001.out) hb) (Kd.R_base ho1)) (Kd.R_base ho2)) (fun _ h_ => h_.1))
       replace HO_314002 := As.mk (Kd.R_mono (Kd.R_told (Kd.R_told (Kd.R_old (by (with_reducible repeat (first | apply Kd.R_alloc | apply Kd.R_drewN | apply Kd.R_drew)); exact HO_314002.out) hb) (Kd.R_base ho1)) (Kd.R_base ho2)) (fun _ h_ => h_.1))
       replace BK258 := As.mk (blk_below (bx BK258.out) hb)
       replace BK259 := As.mk (blk_below (bx BK259.out) hb)
       replace BK286 := As.mk (blk_below (bx BK286.out) hb)
       replace BK298 := As.mk (blk_below (bx BK298.out) hb)
       replace BK313 := As.mk (blk_below (bx BK313.out) hb)
       replace HB := As.mk (below_step (be w) hb)
       (try clear hb)
       (try clear hb2)
       (try clear hk)
       (try clear hi)
       (try clear ho0)
       (try clear ho1)
       (try clear ho2)
       obtain ⟨Ao90, co90, eo90⟩ := Kd.R_slice HO317.out
       (first | subst eo90 | (injection eo90 with f1_ f2_ f3_; have f4_ := f1_.symm; have f5_ := f3_.symm; clear f1_ f2_ f3_; subst f4_; subst f5_))
       obtain ⟨Ao91, co91, eo91⟩ := Kd.R_slice HO320.out
       (first | subst eo91 | (injection eo91 with f1_ f2_ f3_; have f4_ := f1_.symm; have f5_ := f3_.symm; clear f1_ f2_ f3_; subst f4_; subst f5_))
       obtain ⟨Ao92, co92, eo92⟩ := Kd.R_slice HO323.out
       (first | subst eo92 | (injection eo92 with f1_ f2_ f3_; have f4_ := f1_.symm; have f5_ := f3_.symm; clear f1_ f2_ f3_; subst f4_; subst f5_))
       refine hK.out _ _ ⟨(blk_cell BK298.out 0).trans rfl, (blk_cell BK298.out 1).trans rfl, (blk_cell BK298.out 2).trans rfl, (blk_cell BK298.out 3).trans rfl, (blk_cell BK298.out 4).trans rfl, (blk_cell BK258.out 0).trans rfl, (blk_cell BK258.out 1).trans rfl, (blk_cell BK258.out 2).trans rfl, (blk_cell BK258.out 3).trans rfl, (blk_cell BK258.out 4).trans rfl⟩ (fun hHeld => ?_)
       clear hK K
       refine norm_ (a' := ?_) ?_ ?_
       rotate_left
       ·
        show Act.put _ (some 49) _ = _
        simp only [pk, i64_w, i32_w]
        rfl
       refine one_ (i := 3) (N := some 50) #[I, I, I, I, O] rfl rfl (by kernel_rfl) (by decide) (fun K hK => ?_)
       refine goes_ Try.func27 (by kernel_rfl) rfl #[.agg #[.slice Ao40 t287.length co40, .slice Ao45 t290.length co45, .slice Ao46 t293.length co46, .int .i64 t296, .int .i64 t297], .agg #[.slice Ao90 t315.length co90, .slice Ao91 t318.length co91, .slice Ao92 t321.length co92, .int .i64 t324, .int .i64 t325]] (by rfl) rfl rfl (by (try simp only [lm]); first | done | rfl | (simp only [List.length_drop, List.length_take]; rfl)) ?_
       with_reducible refine (laws_eqMemory.calls kj82 _ _ t287 _ _ t290 _ _ t293 t296 t297 _ _ t315 _ _ t318 _ _ t321 t324 t325 t326 _ ?side1 ?side2 ?side3 ?side4 ?side5 ?side6 ?side7 ?side8 ?side9 ?side10 ?side11 ?side12 A86.out).mono ?_
       (case side1 => repeat (first | exact (Kd.R_reads' HO_299000.out).2.2 | (with_reducible refine Kd.C_alloc ?_ _) | (with_reducible refine Kd.C_drewN ?_ _) | (with_reducible refine Kd.C_drew ?_)))
       (case side2 => exact (Kd.R_reads' HO_299000.out).2.1)
       (case side3 => repeat (first | exact (Kd.R_reads' HO_299001.out).2.2 | (with_reducible refine Kd.C_alloc ?_ _) | (with_reducible refine Kd.C_drewN ?_ _) | (with_reducible refine Kd.C_drew ?_)))
       (case side4 => exact (Kd.R_reads' HO_299001.out).2.1)
       (case side5 => repeat (first | exact (Kd.R_reads' HO_299002.out).2.2 | (with_reducible refine Kd.C_alloc ?_ _) | (with_reducible refine Kd.C_drewN ?_ _) | (with_reducible refine Kd.C_drew ?_)))
       (case side6 => exact (Kd.R_reads' HO_299002.out).2.1)
       (case side7 => repeat (first | exact (Kd.R_reads' HO317.out).2.2 | (with_reducible refine Kd.C_alloc ?_ _) | (with_reducible refine Kd.C_drewN ?_ _) | (with_reducible refine Kd.C_drew ?_)))
       (case side8 => exact (Kd.R_reads' HO317.out).2.1)
       (case side9 => repeat (first | exact (Kd.R_reads' HO320.out).2.2 | (with_reducible refine Kd.C_alloc ?_ _) | (with_reducible refine Kd.C_drewN ?_ _) | (with_reducible refine Kd.C_drew ?_)))
       (case side10 => exact (Kd.R_reads' HO320.out).2.1)
       (case side11 => repeat (first | exact (Kd.R_reads' HO323.out).2.2 | (with_reducible refine Kd.C_alloc ?_ _) | (with_reducible refine Kd.C_drewN ?_ _) | (with_reducible refine Kd.C_drew ?_)))
       (case side12 => exact (Kd.R_reads' HO323.out).2.1)
       rintro e w93 ⟨rfl, hb⟩
       refine ⟨_, rfl, ?_⟩
       replace HO_287000 := As.mk (Kd.R_below (by (with_reducible repeat (first | apply Kd.R_alloc | apply Kd.R_drewN | apply Kd.R_drew)); exact HO_287000.out) hb)
       replace HO_287001 := As.mk (Kd.R_below (by (with_reducible repeat (first | apply Kd.R_alloc | apply Kd.R_drewN | apply Kd.R_drew)); exact HO_287001.out) hb)
       replace HO_287002 := As.mk (Kd.R_below (by (with_reducible repeat (first | apply Kd.R_alloc | apply Kd.R_drewN | apply Kd.R_drew)); exact HO_287002.out) hb)
       replace HO_299000 := As.mk (Kd.R_below (by (with_reducible repeat (first | apply Kd.R_alloc | apply Kd.R_drewN | apply Kd.R_drew)); exact HO_299000.out) hb)
       replace HO_299001 := As.mk (Kd.R_below (by (with_reducible repeat (first | apply Kd.R_alloc | apply Kd.R_drewN | apply Kd.R_drew)); exact HO_299001.out) hb)
       replace HO_299002 := As.mk (Kd.R_below (by (with_reducible repeat (first | apply Kd.R_alloc | apply Kd.R_drewN | apply Kd.R_drew)); exact HO_299002.out) hb)
       replace HO_314000 := As.mk (Kd.R_below (by (with_reducible repeat (first | apply Kd.R_alloc | apply Kd.R_drewN | apply Kd.R_drew)); exact HO_314000.out) hb)
       replace HO_314001 := As.mk (Kd.R_below (by (with_reducible repeat (first | apply Kd.R_alloc | apply Kd.R_drewN | apply Kd.R_drew)); exact HO_314001.out) hb)
       replace HO_314002 := As.mk (Kd.R_below (by (with_reducible repeat (first | apply Kd.R_alloc | apply Kd.R_drewN | apply Kd.R_drew)); exact HO_314002.out) hb)
       replace HO317 := As.mk (Kd.R_below (by (with_reducible repeat (first | apply Kd.R_alloc | apply Kd.R_drewN | apply Kd.R_drew)); exact HO317.out) hb)
       replace HO320 := As.mk (Kd.R_below (by (with_reducible repeat (first | apply Kd.R_alloc | apply Kd.R_drewN | apply Kd.R_drew)); exact HO320.out) hb)
       replace HO323 := As.mk (Kd.R_below (by (with_reducible repeat (first | apply Kd.R_alloc | apply Kd.R_drewN | apply Kd.R_drew)); exact HO323.out) hb)
       replace BK258 := As.mk (blk_below (bx BK258.out) hb)
       replace BK259 := As.mk (blk_below (bx BK259.out) hb)
       replace BK286 := As.mk (blk_below (bx BK286.out) hb)
       replace BK298 := As.mk (blk_below (bx BK298.out) hb)
       replace BK313 := As.mk (blk_below (bx BK313.out) hb)
       replace HB := As.mk (below_step (be w) hb)
       (try clear hb)
       (try clear hb2)
       (try clear hk)
       (try clear hi)
       refine hK.out _ _ ⟨(blk_cell BK298.out 0).trans rfl, (blk_cell BK298.out 1).trans rfl, (blk_cell BK298.out 2).trans rfl, (blk_cell BK298.out 3).trans rfl, (blk_cell BK298.out 4).trans rfl, (blk_cell BK258.out 0).trans rfl, (blk_cell BK258.out 1).trans rfl, (blk_cell BK258.out 2).trans rfl, (blk_cell BK258.out 3).trans rfl, (blk_cell BK258.out 4).trans rfl⟩ (fun hHeld => ?_)
       clear hK K
       refine norm_ (a' := ?_) ?_ ?_
       rotate_left
       ·
        show Act.put _ (some 50) _ = _
        simp only [pk, i64_w, i32_w]
        rfl
       refine pure_ (i := 4) (N := some 51) (v := ?_) (a' := ?_) #[I, I, I, I, I] rfl rfl (by kernel_rfl) (fun _ _ _ h => h) (Or.inl ⟨by rfl, ?_⟩) ?_ ?_
       rotate_left
       ·
        intro w'
        go_simp
        with_reducible rfl
       rotate_left
       ·
        simp only [pk, i64_w, i32_w]
        rfl
       refine done_ (by kernel_rfl) ?_
       go_upto_if 51 with (fail)
       go_cut [] (fun wc => ∃ (kq : Nat), As (laws_FnExactLooked.j3 kq t285 t312 l0_0 l0_1 l0_2 a0_3 a0_4 a1_0 a1_1 t274 t277 t280 t283 t284 t287 t290 t293 t296 t297 t301 t304 t307 t310 t311 = some r) ∧ As (kq ≤ kj82) ∧ As (Kd.R k93 93 wc w.heap.size (fun k_ => some k_ ≠ ((.slice Ao40 t287.length co40) : Value).ownBlock ∧ some k_ ≠ ((.slice Ao53 t301.length co53) : Value).ownBlock) (.slice Ao27 t274.length co27) t274) ∧ As (Kd.R (Kd.int .i64) 3 wc w.heap.size (fun k_ => some k_ ≠ ((.slice Ao31 t280.length co31) : Value).ownBlock ∧ some k_ ≠ ((.slice Ao45 t290.length co45) : Value).ownBlock ∧ some k_ ≠ ((.slice Ao46 t293.length co46) : Value).ownBlock ∧ some k_ ≠ ((.slice Ao55 t304.length co55) : Value).ownBlock ∧ some k_ ≠ ((.slice Ao57 t307.length co57) : Value).ownBlock) (.slice Ao29 t277.length co29) t277) ∧ As (Kd.R (Kd.int .i64) 3 wc w.heap.size (fun k_ => some k_ ≠ ((.slice Ao29 t277.length co29) : Value).ownBlock ∧ some k_ ≠ ((.slice Ao45 t290.length co45) : Value).ownBlock ∧ some k_ ≠ ((.slice Ao46 t293.length co46) : Value).ownBlock ∧ some k_ ≠ ((.slice Ao55 t304.length co55) : Value).ownBlock ∧ some k_ ≠ ((.slice Ao57 t307.length co57) : Value).ownBlock) (.slice Ao31 t280.length co31) t280) ∧ As (Kd.R k93 93 wc w.heap.size (fun k_ => some k_ ≠ ((.slice Ao27 t274.length co27) : Value).ownBlock ∧ some k_ ≠ ((.slice Ao53 t301.length co53) : Value).ownBlock) (.slice Ao40 t287.length co40) t287) ∧ As (Kd.R (Kd.int .i64) 3 wc w.heap.size (fun k_ => some k_ ≠ ((.slice Ao29 t277.length co29) : Value).ownBlock ∧ some k_ ≠ ((.slice Ao31 t280.length co31) : Value).ownBlock ∧ some k_ ≠ ((.slice Ao46 t293.length co46) : Value).ownBlock ∧ some k_ ≠ ((.slice Ao55 t304.length co55) : Value).ownBlock ∧ some k_ ≠ ((.slice Ao57 t307.length co57) : Value).ownBlock) (.slice Ao45 t290.length co45) t290) ∧ As (Kd.R (Kd.int .i64) 3 wc w.heap.size (fun k_ => some k_ ≠ ((.slice Ao29 t277.length co29) : Value).ownBlock ∧ some k_ ≠ ((.slice Ao31 t280.length co31) : Value).ownBlock ∧ some k_ ≠ ((.slice Ao45 t290.length co45) : Value).ownBlock ∧ some k_ ≠ ((.slice Ao55 t304.length co55) : Value).ownBlock ∧ some k_ ≠ ((.slice Ao57 t307.length co57) : Value).ownBlock) (.slice Ao46 t293.length co46) t293) ∧ As (Kd.R k93 93 wc w.heap.size (fun k_ => some k_ ≠ ((.slice Ao27 t274.length co27) : Value).ownBlock ∧ some k_ ≠ ((.slice Ao40 t287.length co40) : Value).ownBlock) (.slice Ao53 t301.length co53) t301) ∧ As (Kd.R (Kd.int .i64) 3 wc w.heap.size (fun k_ => some k_ ≠ ((.slice Ao29 t277.length co29) : Value).ownBlock ∧ some k_ ≠ ((.slice Ao31 t280.length co31) : Value).ownBlock ∧ some k_ ≠ ((.slice Ao45 t290.length co45) : Value).ownBlock ∧ some k_ ≠ ((.slice Ao46 t293.length co46) : Value).ownBlock ∧ some k_ ≠ ((.slice Ao57 t307.length co57) : Value).ownBlock) (.slice Ao55 t304.length co55) t304) ∧ As (Kd.R (Kd.int .i64) 3 wc w.heap.size (fun k_ => some k_ ≠ ((.slice Ao29 t277.length co29) : Value).ownBlock ∧ some k_ ≠ ((.slice Ao31 t280.length co31) : Value).ownBlock ∧ some k_ ≠ ((.slice Ao45 t290.length co45) : Value).ownBlock ∧ some k_ ≠ ((.slice Ao46 t293.length co46) : Value).ownBlock ∧ some k_ ≠ ((.slice Ao55 t304.length co55) : Value).ownBlock) (.slice Ao57 t307.length co57) t307) ∧ As (wc.heap[gb258]? = some (.cells #[(.slice A0_0 l0_0.length c0_0), (.slice A0_1 l0_1.length c0_1), (.slice A0_2 l0_2.length c0_2), .int .i64 a0_3, .int .i64 a0_4] 47 (0, 0))) ∧ As (wc.heap[gb259]? = some (.cells #[.int .i64 a1_0, .int .i64 a1_1] 48 (0, 0))) ∧ As (wc.heap[gb286]? = some (.cells #[(.slice Ao27 t274.length co27), (.slice Ao29 t277.length co29), (.slice Ao31 t280.length co31), .int .i64 t283, .int .i64 t284] 34 (0, 0))) ∧ As (wc.heap[gb298]? = some (.cells #[(.slice Ao40 t287.length co40), (.slice Ao45 t290.length co45), (.slice Ao46 t293.length co46), .int .i64 t296, .int .i64 t297] 34 (0, 0))) ∧ As (wc.heap[gb313]? = some (.cells #[(.slice Ao53 t301.length co53), (.slice Ao55 t304.length co55), (.slice Ao57 t307.length co57), .int .i64 t310, .int .i64 t311] 34 (0, 0))) ∧ As (Below w.heap.size w wc))
       case first =>
        have H := HC87.out
        clear HC87
        by_cases c94 : t326 = true
        rotate_left
        ·
         replace c94 := Bool.eq_false_iff.mpr c94
         subst c94
         rw [if_neg (show ¬ (false = true) by decide)] at H
         exact absurd H (by rw [hrt.out]; simp)
        subst c94
        rw [if_pos rfl] at H
        have H' := As.mk H
        clear H
        go_wp2
        go_meet
        case rel => exact ⟨_, H', ⟨by have := HJ3.out; have := HJ16.out; have := HJ82.out; first | omega | exact Nat.le_refl _⟩, ⟨by (with_reducible repeat (first | apply Kd.R_alloc | apply Kd.R_drewN | apply Kd.R_drew)); exact Kd.R_mono HO_287000.out (fun _ hk => ⟨hk.1.1, hk.1.2⟩)⟩, ⟨by (with_reducible repeat (first | apply Kd.R_alloc | apply Kd.R_drewN | apply Kd.R_drew)); exact Kd.R_mono HO_287001.out (fun _ hk => ⟨hk.1.1.1, ⟨hk.1.1.2.1, ⟨hk.1.1.2.2.1, ⟨hk.1.1.2.2.2.1, hk.1.1.2.2.2.2⟩⟩⟩⟩)⟩, ⟨by (with_reducible repeat (first | apply Kd.R_alloc | apply Kd.R_drewN | apply Kd.R_drew)); exact Kd.R_mono HO_287002.out (fun _ hk => ⟨hk.1.1.1, ⟨hk.1.1.2.1, ⟨hk.1.1.2.2.1, ⟨hk.1.1.2.2.2.1, hk.1.1.2.2.2.2⟩⟩⟩⟩)⟩, ⟨by (with_reducible repeat (first | apply Kd.R_alloc | apply Kd.R_drewN | apply Kd.R_drew)); exact Kd.R_mono HO_299000.out (fun _ hk => ⟨hk.1.1, hk.1.2⟩)⟩, ⟨by (with_reducible repeat (first | apply Kd.R_alloc | apply Kd.R_drewN | apply Kd.R_drew)); exact Kd.R_mono HO_299001.out (fun _ hk => ⟨hk.1.1.1, ⟨hk.1.1.2.1, ⟨hk.1.1.2.2.1, ⟨hk.1.1.2.2.2.1, hk.1.1.2.2.2.2⟩⟩⟩⟩)⟩, ⟨by (with_reducible repeat (first | apply Kd.R_alloc | apply Kd.R_drewN | apply Kd.R_drew)); exact Kd.R_mono HO_299002.out (fun _ hk => ⟨hk.1.1.1, ⟨hk.1.1.2.1, ⟨hk.1.1.2.2.1, ⟨hk.1.1.2.2.2.1, hk.1.1.2.2.2.2⟩⟩⟩⟩)⟩, ⟨by (with_reducible repeat (first | apply Kd.R_alloc | apply Kd.R_drewN | apply Kd.R_drew)); exact Kd.R_mono HO_314000.out (fun _ hk => ⟨hk.1.1, hk.1.2⟩)⟩, ⟨by (with_reducible repeat (first | apply Kd.R_alloc | apply Kd.R_drewN | apply Kd.R_drew)); exact Kd.R_mono HO_314001.out (fun _ hk => ⟨hk.1.1.1, ⟨hk.1.1.2.1, ⟨hk.1.1.2.2.1, ⟨hk.1.1.2.2.2.1, hk.1.1.2.2.2.2⟩⟩⟩⟩)⟩, ⟨by (with_reducible repeat (first | apply Kd.R_alloc | apply Kd.R_drewN | apply Kd.R_drew)); exact Kd.R_mono HO_314002.out (fun _ hk => ⟨hk.1.1.1, ⟨hk.1.1.2.1, ⟨hk.1.1.2.2.1, ⟨hk.1.1.2.2.2.1, hk.1.1.2.2.2.2⟩⟩⟩⟩)⟩, ⟨bx BK258.out⟩, ⟨bx BK259.out⟩, ⟨bx BK286.out⟩, ⟨bx BK298.out⟩, ⟨bx BK313.out⟩, ⟨be w⟩⟩
       case rest =>
        clear HC87
        obtain ⟨kq, HA, HJ86, HO_287000, HO_287001, HO_287002, HO_299000, HO_299001, HO_299002, HO_314000, HO_314001, HO_314002, BK258, BK259, BK286, BK298, BK313, HB⟩ := hcut
        cases kq with
        | zero => exact absurd HA.out (by simp [laws_FnExactLooked.j3])
        | succ kj86 =>
         have H := HA.out
         clear HA
         simp only [laws_FnExactLooked.j3] at H
         obtain ⟨⟨t327, t328, t329, t330⟩, A950, H⟩ := Option.bind_eq_some_iff.mp H
         try dsimp only at H
         have A95 := As.mk A950
         clear A950
         have HC96 := As.mk H
         clear H
         have hnb97 := NB298_258.out
         have hnc97 := NB258_298.out
         have hnb98 := NB298_259.out
         have hnc98 := NB259_298.out
         have hnb99 := NB298_286.out
         have hnc99 := NB286_298.out
         have hnb100 := NB298_313.out
         have hnc100 := NB313_298.out
         obtain ⟨hcz101_0, hcz101_1, hcz101_2, hcz101_3, hcz101_4, hfz101_0, hfz101_1, hfz101_2, hfz101_3, hfz101_4⟩ := cl5 BK298.out
         go_upto_region 14 with (first | ((with_reducible refine gate_callee (f := 28) rfl ?_); refine goesL_ (some 54) rfl rfl Try.func28 (by kernel_rfl) rfl #[.agg #[.slice Ao40 t287.length co40, .slice Ao45 t290.length co45, .slice Ao46 t293.length co46, .int .i64 t296, .int .i64 t297], .int .i64 1] rfl (by (try simp only [lm]); first | done | rfl | (simp only [List.length_drop, List.length_take]; rfl)) ?_; (with_reducible refine (laws_markMemory.calls kj86 (fun k_ => some k_ = (.slice Ao40 t287.length co40 : Value).ownBlock) (.slice Ao40 t287.length co40) t287 (fun k_ => some k_ = (.slice Ao45 t290.length co45 : Value).ownBlock) (.slice Ao45 t290.length co45) t290 (fun k_ => some k_ = (.slice Ao46 t293.length co46 : Value).ownBlock) (.slice Ao46 t293.length co46) t293 t296 t297 1 t327 t328 t329 t330 w _ ?side1 ?side2 ?side3 ?side4 ?side5 ?side6 A95.out).mono ?_); (case side1 => repeat (first | (with_reducible first | exact HB.out | apply below_alloc | apply pw_below_drewN | apply below_drew1 | refine below_set ?_ GE258.out | refine below_set ?_ GE259.out | refine below_set ?_ GE286.out | refine below_set ?_ GE298.out | refine below_set ?_ GE313.out) | exact HB.out)); (case side2 => exact Kd.R_tight rfl HO_299000.out); (case side3 => exact Kd.R_tight rfl HO_299001.out); (case side4 => exact fun k_ e_ => (HO_299001.out.1 k_ e_.symm).2.2.1); (case side5 => exact Kd.R_tight rfl HO_299002.out); (case side6 => exact fun k_ e_ => (HO_299002.out.1 k_ e_.symm).2.2.1); rintro e w102 ⟨rfl, hy0, hy1, hy2, hb, hkp⟩; refine ⟨_, rfl, ?_⟩; replace HO_287000 := As.mk (Kd.R_mono (ok' := fun k_ => some k_ ≠ (.slice Ao40 t287.length co40 : Value).ownBlock ∧ some k_ ≠ (.slice Ao53 t301.length co53 : Value).ownBlock) (Kd.R_keptB ((Kd.R_apart' (Kd.R_apart' HO_287000.out (Kd.R_typed HO_299001.out) (by decide)) (Kd.R_typed HO_299002.out) (by decide))) hkp (fun k_ hk_ hs_ => Or.elim hs_ (fun e_ => (hk_.1.1.1) e_) (fun e_ => Or.elim e_ (fun e_ => (hk_.1.2) e_) (fun e_ => (hk_.2) e_)))) (fun k_ hk_ => ⟨hk_.1.1.1.1, hk_.1.1.1.2⟩)); replace HO_287001 := As.mk (Kd.R_mono (ok' := fun k_ => some k_ ≠ (.slice Ao31 t280.length co31 : Value).ownBlock ∧ some k_ ≠ (.slice Ao45 t290.length co45 : Value).ownBlock ∧ some k_ ≠ (.slice Ao46 t293.length co46 : Value).ownBlock ∧ some k_ ≠ (.slice Ao55 t304.length co55 : Value).ownBlock ∧ some k_ ≠ (.slice Ao57 t307.length co57 : Value).ownBlock) (Kd.R_keptB ((Kd.R_apart' HO_287001.out (Kd.R_typed HO_299000.out) (by decide))) hkp (fun k_ hk_ hs_ => Or.elim hs_ (fun e_ => (hk_.2) e_) (fun e_ => Or.elim e_ (fun e_ => (hk_.1.2.1) e_) (fun e_ => (hk_.1.2.2.1) e_)))) (fun k_ hk_ => ⟨hk_.1.1.1, hk_.1.1.2.1, hk_.1.1.2.2.1, hk_.1.1.2.2.2.1, hk_.1.1.2.2.2.2⟩)); replace HO_287002 := As.mk (Kd.R_mono (ok' := fun k_ => some k_ ≠ (.slice Ao29 t277.length co29 : Value).ownBlock ∧ some k_ ≠ (.slice Ao45 t290.length co45 : Value).ownBlock ∧ some k_ ≠ (.slice Ao46 t293.length co46 : Value).ownBlock ∧ some k_ ≠ (.slice Ao55 t304.length co55 : Value).ownBlock ∧ some k_ ≠ (.slice Ao57 t307.length co57 : Value).ownBlock) (Kd.R_keptB ((Kd.R_apart' HO_287002.out (Kd.R_typed HO_299000.out) (by decide))) hkp (fun k_ hk_ hs_ => Or.elim hs_ (fun e_ => (hk_.2) e_) (fun e_ => Or.elim e_ (fun e_ => (hk_.1.2.1) e_) (fun e_ => (hk_.1.2.2.1) e_)))) (fun k_ hk_ => ⟨hk_.1.1.1, hk_.1.1.2.1, hk_.1.1.2.2.1, hk_.1.1.2.2.2.1, hk_.1.1.2.2.2.2⟩)); replace HO_314000 := As.mk (Kd.R_mono (ok' := fun k_ => some k_ ≠ (.slice Ao27 t274.length co27 : Value).ownBlock ∧ some k_ ≠ (.slice Ao40 t287.length co40 : Value).ownBlock) (Kd.R_keptB ((Kd.R_apart' (Kd.R_apart' HO_314000.out (Kd.R_typed HO_299001.out) (by decide)) (Kd.R_typed HO_299002.out) (by decide))) hkp (fun k_ hk_ hs_ => Or.elim hs_ (fun e_ => (hk_.1.1.2) e_) (fun e_ => Or.elim e_ (fun e_ => (hk_.1.2) e_) (fun e_ => (hk_.2) e_)))) (fun k_ hk_ => ⟨hk_.1.1.1.1, hk_.1.1.1.2⟩)); replace HO_314001 := As.mk (Kd.R_mono (ok' := fun k_ => some k_ ≠ (.slice Ao29 t277.length co29 : Value).ownBlock ∧ some k_ ≠ (.slice Ao31 t280.length co31 : Value).ownBlock ∧ some k_ ≠ (.slice Ao45 t290.length co45 : Value).ownBlock ∧ some k_ ≠ (.slice Ao46 t293.length co46 : Value).ownBlock ∧ some k_ ≠ (.slice Ao57 t307.length co57 : Value).ownBlock) (Kd.R_keptB ((Kd.R_apart' HO_314001.out (Kd.R_typed HO_299000.out) (by decide))) hkp (fun k_ hk_ hs_ => Or.elim hs_ (fun e_ => (hk_.2) e_) (fun e_ => Or.elim e_ (fun e_ => (hk_.1.2.2.1) e_) (fun e_ => (hk_.1.2.2.2.1) e_)))) (fun k_ hk_ => ⟨hk_.1.1.1, hk_.1.1.2.1, hk_.1.1.2.2.1, hk_.1.1.2.2.2.1, hk_.1.1.2.2.2.2⟩)); replace HO_314002 := As.mk (Kd.R_mono (ok' := fun k_ => some k_ ≠ (.slice Ao29 t277.length co29 : Value).ownBlock ∧ some k_ ≠ (.slice Ao31 t280.length co31 : Value).ownBlock ∧ some k_ ≠ (.slice Ao45 t290.length co45 : Value).ownBlock ∧ some k_ ≠ (.slice Ao46 t293.length co46 : Value).ownBlock ∧ some k_ ≠ (.slice Ao55 t304.length co55 : Value).ownBlock) (Kd.R_keptB ((Kd.R_apart' HO_314002.out (Kd.R_typed HO_299000.out) (by decide))) hkp (fun k_ hk_ hs_ => Or.elim hs_ (fun e_ => (hk_.2) e_) (fun e_ => Or.elim e_ (fun e_ => (hk_.1.2.2.1) e_) (fun e_ => (hk_.1.2.2.2.1) e_)))) (fun k_ hk_ => ⟨hk_.1.1.1, hk_.1.1.2.1, hk_.1.1.2.2.1, hk_.1.1.2.2.2.1, hk_.1.1.2.2.2.2⟩)); replace BK258 := As.mk (blk_kept (bx BK258.out) hkp (fun hs_ => Or.elim hs_ (fun e_ => (fun e_ => (Kd.R_ne HO_299000.out BK258.out (by decide)) e_) e_) (fun e_ => Or.elim e_ (fun e_ => (fun e_ => (Kd.R_ne HO_299001.out BK258.out (by decide)) e_) e_) (fun e_ => (fun e_ => (Kd.R_ne HO_299002.out BK258.out (by decide)) e_) e_)))); replace BK259 := As.mk (blk_kept (bx BK259.out) hkp (fun hs_ => Or.elim hs_ (fun e_ => (fun e_ => (Kd.R_ne HO_299000.out BK259.out (by decide)) e_) e_) (fun e_ => Or.elim e_ (fun e_ => (fun e_ => (Kd.R_ne HO_299001.out BK259.out (by decide)) e_) e_) (fun e_ => (fun e_ => (Kd.R_ne HO_299002.out BK259.out (by decide)) e_) e_)))); replace BK286 := As.mk (blk_kept (bx BK286.out) hkp (fun hs_ => Or.elim hs_ (fun e_ => (fun e_ => (Kd.R_ne HO_299000.out BK286.out (by decide)) e_) e_) (fun e_ => Or.elim e_ (fun e_ => (fun e_ => (Kd.R_ne HO_299001.out BK286.out (by decide)) e_) e_) (fun e_ => (fun e_ => (Kd.R_ne HO_299002.out BK286.out (by decide)) e_) e_)))); replace BK298 := As.mk (blk_kept (bx BK298.out) hkp (fun hs_ => Or.elim hs_ (fun e_ => (fun e_ => (Kd.R_ne HO_299000.out BK298.out (by decide)) e_) e_) (fun e_ => Or.elim e_ (fun e_ => (fun e_ => (Kd.R_ne HO_299001.out BK298.out (by decide)) e_) e_) (fun e_ => (fun e_ => (Kd.R_ne HO_299002.out BK298.out (by decide)) e_) e_)))); replace BK313 := As.mk (blk_kept (bx BK313.out) hkp (fun hs_ => Or.elim hs_ (fun e_ => (fun e_ => (Kd.R_ne HO_299000.out BK313.out (by decide)) e_) e_) (fun e_ => Or.elim e_ (fun e_ => (fun e_ => (Kd.R_ne HO_299001.out BK313.out (by decide)) e_) e_) (fun e_ => (fun e_ => (Kd.R_ne HO_299002.out BK313.out (by decide)) e_) e_)))); replace HO_299000 := As.mk (Kd.R_reok rfl hy0 (fun k_ e_ => HO_299000.out.1 k_ e_)); replace HO_299001 := As.mk (Kd.R_reok rfl hy1 (fun k_ e_ => HO_299001.out.1 k_ e_)); replace HO_299002 := As.mk (Kd.R_reok rfl hy2 (fun k_ e_ => HO_299002.out.1 k_ e_)); replace HB := As.mk (hb); (try clear hb); (try clear hkp); (try clear hy0); (try clear hy1); (try clear hy2)))
         (try simp only [pk])
         go_cut [67] (fun v67 wc => ∃ (kq : Nat) (x67_95 : Bool), v67 = .bool x67_95 ∧ As (laws_FnExactLooked.j4 kq t285 x67_95 l0_0 l0_1 l0_2 a0_3 a0_4 a1_0 a1_1 t274 t277 t280 t283 t284 t301 t304 t307 t310 t311 = some r) ∧ As (kq ≤ kj86) ∧ As (Kd.R k93 93 wc w.heap.size (fun k_ => some k_ ≠ ((.slice Ao40 t287.length co40) : Value).ownBlock ∧ some k_ ≠ ((.slice Ao53 t301.length co53) : Value).ownBlock) (.slice Ao27 t274.length co27) t274) ∧ As (Kd.R (Kd.int .i64) 3 wc w.heap.size (fun k_ => some k_ ≠ ((.slice Ao31 t280.length co31) : Value).ownBlock ∧ some k_ ≠ ((.slice Ao45 t290.length co45) : Value).ownBlock ∧ some k_ ≠ ((.slice Ao46 t293.length co46) : Value).ownBlock ∧ some k_ ≠ ((.slice Ao55 t304.length co55) : Value).ownBlock ∧ some k_ ≠ ((.slice Ao57 t307.length co57) : Value).ownBlock) (.slice Ao29 t277.length co29) t277) ∧ As (Kd.R (Kd.int .i64) 3 wc w.heap.size (fun k_ => some k_ ≠ ((.slice Ao29 t277.length co29) : Value).ownBlock ∧ some k_ ≠ ((.slice Ao45 t290.length co45) : Value).ownBlock ∧ some k_ ≠ ((.slice Ao46 t293.length co46) : Value).ownBlock ∧ some k_ ≠ ((.slice Ao55 t304.length co55) : Value).ownBlock ∧ some k_ ≠ ((.slice Ao57 t307.length co57) : Value).ownBlock) (.slice Ao31 t280.length co31) t280) ∧ As (Kd.R k93 93 wc w.heap.size (fun k_ => some k_ ≠ ((.slice Ao27 t274.length co27) : Value).ownBlock ∧ some k_ ≠ ((.slice Ao53 t301.length co53) : Value).ownBlock) (.slice Ao40 t287.length co40) t328) ∧ As (Kd.R (Kd.int .i64) 3 wc w.heap.size (fun k_ => some k_ ≠ ((.slice Ao29 t277.length co29) : Value).ownBlock ∧ some k_ ≠ ((.slice Ao31 t280.length co31) : Value).ownBlock ∧ some k_ ≠ ((.slice Ao46 t293.length co46) : Value).ownBlock ∧ some k_ ≠ ((.slice Ao55 t304.length co55) : Value).ownBlock ∧ some k_ ≠ ((.slice Ao57 t307.length co57) : Value).ownBlock) (.slice Ao45 t290.length co45) t329) ∧ As (Kd.R (Kd.int .i64) 3 wc w.heap.size (fun k_ => some k_ ≠ ((.slice Ao29 t277.length co29) : Value).ownBlock ∧ some k_ ≠ ((.slice Ao31 t280.length co31) : Value).ownBlock ∧ some k_ ≠ ((.slice Ao45 t290.length co45) : Value).ownBlock ∧ some k_ ≠ ((.slice Ao55 t304.length co55) : Value).ownBlock ∧ some k_ ≠ ((.slice Ao57 t307.length co57) : Value).ownBlock) (.slice Ao46 t293.length co46) t330) ∧ As (Kd.R k93 93 wc w.heap.size (fun k_ => some k_ ≠ ((.slice Ao27 t274.length co27) : Value).ownBlock ∧ some k_ ≠ ((.slice Ao40 t287.length co40) : Value).ownBlock) (.slice Ao53 t301.length co53) t301) ∧ As (Kd.R (Kd.int .i64) 3 wc w.heap.size (fun k_ => some k_ ≠ ((.slice Ao29 t277.length co29) : Value).ownBlock ∧ some k_ ≠ ((.slice Ao31 t280.length co31) : Value).ownBlock ∧ some k_ ≠ ((.slice Ao45 t290.length co45) : Value).ownBlock ∧ some k_ ≠ ((.slice Ao46 t293.length co46) : Value).ownBlock ∧ some k_ ≠ ((.slice Ao57 t307.length co57) : Value).ownBlock) (.slice Ao55 t304.length co55) t304) ∧ As (Kd.R (Kd.int .i64) 3 wc w.heap.size (fun k_ => some k_ ≠ ((.slice Ao29 t277.length co29) : Value).ownBlock ∧ some k_ ≠ ((.slice Ao31 t280.length co31) : Value).ownBlock ∧ some k_ ≠ ((.slice Ao45 t290.length co45) : Value).ownBlock ∧ some k_ ≠ ((.slice Ao46 t293.length co46) : Value).ownBlock ∧ some k_ ≠ ((.slice Ao55 t304.length co55) : Value).ownBlock) (.slice Ao57 t307.length co57) t307) ∧ As (wc.heap[gb258]? = some (.cells #[(.slice A0_0 l0_0.length c0_0), (.slice A0_1 l0_1.length c0_1), (.slice A0_2 l0_2.length c0_2), .int .i64 a0_3, .int .i64 a0_4] 47 (0, 0))) ∧ As (wc.heap[gb259]? = some (.cells #[.int .i64 a1_0, .int .i64 a1_1] 48 (0, 0))) ∧ As (wc.heap[gb286]? = some (.cells #[(.slice Ao27 t274.length co27), (.slice Ao29 t277.length co29), (.slice Ao31 t280.length co31), .int .i64 t283, .int .i64 t284] 34 (0, 0))) ∧ As (wc.heap[gb298]? = some (.cells #[(.slice Ao40 t287.length co40), (.slice Ao45 t290.length co45), (.slice Ao46 t293.length co46), .int .i64 t296, .int .i64 t297] 34 (0, 0))) ∧ As (wc.heap[gb313]? = some (.cells #[(.slice Ao53 t301.length co53), (.slice Ao55 t304.length co55), (.slice Ao57 t307.length co57), .int .i64 t310, .int .i64 t311] 34 (0, 0))) ∧ As (Below w.heap.size w wc))
         case first =>
          have H := HC96.out
          clear HC96
          by_cases c103 : t327 < 0
          ·
           rw [if_pos c103] at H
           have c103b0 : decide (t327 < 0) = true := decide_eq_true c103
           clear c103
           (first | rw [c103b0] | (simp only [i64_w, i32_w]; rw [c103b0]) | skip)
           have H' := As.mk H
           clear H
           go_wp2
           go_meet
           case rel => exact ⟨_, (true), (by first | rfl | (simp; done) | (simp [*]; done)), H', ⟨by have := HJ3.out; have := HJ16.out; have := HJ82.out; have := HJ86.out; first | omega | exact Nat.le_refl _⟩, ⟨by (with_reducible repeat (first | apply Kd.R_alloc | apply Kd.R_drewN | apply Kd.R_drew)); exact HO_287000.out⟩, ⟨by (with_reducible repeat (first | apply Kd.R_alloc | apply Kd.R_drewN | apply Kd.R_drew)); exact HO_287001.out⟩, ⟨by (with_reducible repeat (first | apply Kd.R_alloc | apply Kd.R_drewN | apply Kd.R_drew)); exact HO_287002.out⟩, ⟨by (with_reducible repeat (first | apply Kd.R_alloc | apply Kd.R_drewN | apply Kd.R_drew)); exact HO_299000.out⟩, ⟨by (with_reducible repeat (first | apply Kd.R_alloc | apply Kd.R_drewN | apply Kd.R_drew)); exact HO_299001.out⟩, ⟨by (with_reducible repeat (first | apply Kd.R_alloc | apply Kd.R_drewN | apply Kd.R_drew)); exact HO_299002.out⟩, ⟨by (with_reducible repeat (first | apply Kd.R_alloc | apply Kd.R_drewN | apply Kd.R_drew)); exact HO_314000.out⟩, ⟨by (with_reducible repeat (first | apply Kd.R_alloc | apply Kd.R_drewN | apply Kd.R_drew)); exact HO_314001.out⟩, ⟨by (with_reducible repeat (first | apply Kd.R_alloc | apply Kd.R_drewN | apply Kd.R_drew)); exact HO_314002.out⟩, ⟨bx BK258.out⟩, ⟨bx BK259.out⟩, ⟨bx BK286.out⟩, ⟨bx BK298.out⟩, ⟨bx BK313.out⟩, ⟨be w⟩⟩
          rw [if_neg c103] at H
          have c103b0 : decide (t327 < 0) = false := decide_eq_false c103
          clear c103
          (first | rw [c103b0] | (simp only [i64_w, i32_w]; rw [c103b0]) | skip)
          obtain ⟨t331, A1040, H⟩ := Option.bind_eq_some_iff.mp H
          try dsimp only at H
          have A104 := As.mk A1040
          clear A1040
          by_cases c105 : t331 = true
          ·
           subst c105
           rw [if_pos rfl] at H
           have H' := As.mk H
           clear H
           have hnb106 := NB313_258.out
           have hnc106 := NB258_313.out
           have hnb107 := NB313_259.out
           have hnc107 := NB259_313.out
           have hnb108 := NB313_286.out
           have hnc108 := NB286_313.out
           have hnb109 := NB313_298.out
           have hnc109 := NB298_313.out
           obtain ⟨hcz110_0, hcz110_1, hcz110_2, hcz110_3, hcz110_4, hfz110_0, hfz110_1, hfz110_2, hfz110_3, hfz110_4⟩ := cl5 BK313.out
           have hnb111 := NB286_258.out
           have hnc111 := NB258_286.out
           have hnb112 := NB286_259.out
           have hnc112 := NB259_286.out
           have hnb113 := NB286_298.out
           have hnc113 := NB298_286.out
           obtain ⟨hcz114_0, hcz114_1, hcz114_2, hcz114_3, hcz114_4, hfz114_0, hfz114_1, hfz114_2, hfz114_3, hfz114_4⟩ := cl5 BK286.out
           go_wp2_with (first | (go_at_call 27; (with_reducible refine (laws_eqMemory.calls kj86 _ _ t301 _ _ t304 _ _ t307 t310 t311 _ _ t274 _ _ t277 _ _ t280 t283 t284 true _ ?side1 ?side2 ?side3 ?side4 ?side5 ?side6 ?side7 ?side8 ?side9 ?side10 ?side11 ?side12 A104.out).mono ?_); (case side1 => repeat (first | exact (Kd.R_reads' HO_314000.out).2.2 | (with_reducible refine Kd.C_alloc ?_ _) | (with_reducible refine Kd.C_drewN ?_ _) | (with_reducible refine Kd.C_drew ?_))); (case side2 => exact (Kd.R_reads' HO_314000.out).2.1); (case side3 => repeat (first | exact (Kd.R_reads' HO_314001.out).2.2 | (with_reducible refine Kd.C_alloc ?_ _) | (with_reducible refine Kd.C_drewN ?_ _) | (with_reducible refine Kd.C_drew ?_))); (case side4 => exact (Kd.R_reads' HO_314001.out).2.1); (case side5 => repeat (first | exact (Kd.R_reads' HO_314002.out).2.2 | (with_reducible refine Kd.C_alloc ?_ _) | (with_reducible refine Kd.C_drewN ?_ _) | (with_reducible refine Kd.C_drew ?_))); (case side6 => exact (Kd.R_reads' HO_314002.out).2.1); (case side7 => repeat (first | exact (Kd.R_reads' HO_287000.out).2.2 | (with_reducible refine Kd.C_alloc ?_ _) | (with_reducible refine Kd.C_drewN ?_ _) | (with_reducible refine Kd.C_drew ?_))); (case side8 => exact (Kd.R_reads' HO_287000.out).2.1); (case side9 => repeat (first | exact (Kd.R_reads' HO_287001.out).2.2 | (with_reducible refine Kd.C_alloc ?_ _) | (with_reducible refine Kd.C_drewN ?_ _) | (with_reducible refine Kd.C_drew ?_))); (case side10 => exact (Kd.R_reads' HO_287001.out).2.1); (case side11 => repeat (first | exact (Kd.R_reads' HO_287002.out).2.2 | (with_reducible refine Kd.C_alloc ?_ _) | (with_reducible refine Kd.C_drewN ?_ _) | (with_reducible refine Kd.C_drew ?_))); (case side12 => exact (Kd.R_reads' HO_287002.out).2.1); rintro e w115 ⟨rfl, hb⟩; replace HO_287000 := As.mk (Kd.R_below (by (with_reducible repeat (first | apply Kd.R_alloc | apply Kd.R_drewN | apply Kd.R_drew)); exact HO_287000.out) hb); replace HO_287001 := As.mk (Kd.R_below (by (with_reducible repeat (first | apply Kd.R_alloc | apply Kd.R_drewN | apply Kd.R_drew)); exact HO_287001.out) hb); replace HO_287002 := As.mk (Kd.R_below (by (with_reducible repeat (first | apply Kd.R_alloc | apply Kd.R_drewN | apply Kd.R_drew)); exact HO_287002.out) hb); replace HO_299000 := As.mk (Kd.R_below (by (with_reducible repeat (first | apply Kd.R_alloc | apply Kd.R_drewN | apply Kd.R_drew)); exact HO_299000.out) hb); replace HO_299001 := As.mk (Kd.R_below (by (with_reducible repeat (first | apply Kd.R_alloc | apply Kd.R_drewN | apply Kd.R_drew)); exact HO_299001.out) hb); replace HO_299002 := As.mk (Kd.R_below (by (with_reducible repeat (first | apply Kd.R_alloc | apply Kd.R_drewN | apply Kd.R_drew)); exact HO_299002.out) hb); replace HO_314000 := As.mk (Kd.R_below (by (with_reducible repeat (first | apply Kd.R_alloc | apply Kd.R_drewN | apply Kd.R_drew)); exact HO_314000.out) hb); replace HO_314001 := As.mk (Kd.R_below (by (with_reducible repeat (first | apply Kd.R_alloc | apply Kd.R_drewN | apply Kd.R_drew)); exact HO_314001.out) hb); replace HO_314002 := As.mk (Kd.R_below (by (with_reducible repeat (first | apply Kd.R_alloc | apply Kd.R_drewN | apply Kd.R_drew)); exact HO_314002.out) hb); replace BK258 := As.mk (blk_below (bx BK258.out) hb); replace BK259 := As.mk (blk_below (bx BK259.out) hb); replace BK286 := As.mk (blk_below (bx BK286.out) hb); replace BK298 := As.mk (blk_below (bx BK298.out) hb); replace BK313 := As.mk (blk_below (bx BK313.out) hb); replace HB := As.mk (below_step (be w) hb); (try clear hb); (try clear hb2); (try clear hk); (try clear hi)))
           go_meet
           case rel => exact ⟨_, ((t312 != t285)), (by first | rfl | (simp; done) | (simp [*]; done)), H', ⟨by have := HJ3.out; have := HJ16.out; have := HJ82.out; have := HJ86.out; first | omega | exact Nat.le_refl _⟩, ⟨by (with_reducible repeat (first | apply Kd.R_alloc | apply Kd.R_drewN | apply Kd.R_drew)); exact HO_287000.out⟩, ⟨by (with_reducible repeat (first | apply Kd.R_alloc | apply Kd.R_drewN | apply Kd.R_drew)); exact HO_287001.out⟩, ⟨by (with_reducible repeat (first | apply Kd.R_alloc | apply Kd.R_drewN | apply Kd.R_drew)); exact HO_287002.out⟩, ⟨by (with_reducible repeat (first | apply Kd.R_alloc | apply Kd.R_drewN | apply Kd.R_drew)); exact HO_299000.out⟩, ⟨by (with_reducible repeat (first | apply Kd.R_alloc | apply Kd.R_drewN | apply Kd.R_drew)); exact HO_299001.out⟩, ⟨by (with_reducible repeat (first | apply Kd.R_alloc | apply Kd.R_drewN | apply Kd.R_drew)); exact HO_299002.out⟩, ⟨by (with_reducible repeat (first | apply Kd.R_alloc | apply Kd.R_drewN | apply Kd.R_drew)); exact HO_314000.out⟩, ⟨by (with_reducible repeat (first | apply Kd.R_alloc | apply Kd.R_drewN | apply Kd.R_drew)); exact HO_314001.out⟩, ⟨by (with_reducible repeat (first | apply Kd.R_alloc | apply Kd.R_drewN | apply Kd.R_drew)); exact HO_314002.out⟩, ⟨bx BK258.out⟩, ⟨bx BK259.out⟩, ⟨bx BK286.out⟩, ⟨bx BK298.out⟩, ⟨bx BK313.out⟩, ⟨be w⟩⟩
          replace c105 := Bool.eq_false_iff.mpr c105
          subst c105
          rw [if_neg (show ¬ (false = true) by decide)] at H
          have H' := As.mk H
          clear H
          have hnb116 := NB313_258.out
          have hnc116 := NB258_313.out
          have hnb117 := NB313_259.out
          have hnc117 := NB259_313.out
          have hnb118 := NB313_286.out
          have hnc118 := NB286_313.out
          have hnb119 := NB313_298.out
          have hnc119 := NB298_313.out
          obtain ⟨hcz120_0, hcz120_1, hcz120_2, hcz120_3, hcz120_4, hfz120_0, hfz120_1, hfz120_2, hfz120_3, hfz120_4⟩ := cl5 BK313.out
          have hnb121 := NB286_258.out
          have hnc121 := NB258_286.out
          have hnb122 := NB286_259.out
          have hnc122 := NB259_286.out
          have hnb123 := NB286_298.out
          have hnc123 := NB298_286.out
          obtain ⟨hcz124_0, hcz124_1, hcz124_2, hcz124_3, hcz124_4, hfz124_0, hfz124_1, hfz124_2, hfz124_3, hfz124_4⟩ := cl5 BK286.out
          go_wp2_with (first | (go_at_call 27; (with_reducible refine (laws_eqMemory.calls kj86 _ _ t301 _ _ t304 _ _ t307 t310 t311 _ _ t274 _ _ t277 _ _ t280 t283 t284 false _ ?side1 ?side2 ?side3 ?side4 ?side5 ?side6 ?side7 ?side8 ?side9 ?side10 ?side11 ?side12 A104.out).mono ?_); (case side1 => repeat (first | exact (Kd.R_reads' HO_314000.out).2.2 | (with_reducible refine Kd.C_alloc ?_ _) | (with_reducible refine Kd.C_drewN ?_ _) | (with_reducible refine Kd.C_drew ?_))); (case side2 => exact (Kd.R_reads' HO_314000.out).2.1); (case side3 => repeat (first | exact (Kd.R_reads' HO_314001.out).2.2 | (with_reducible refine Kd.C_alloc ?_ _) | (with_reducible refine Kd.C_drewN ?_ _) | (with_reducible refine Kd.C_drew ?_))); (case side4 => exact (Kd.R_reads' HO_314001.out).2.1); (case side5 => repeat (first | exact (Kd.R_reads' HO_314002.out).2.2 | (with_reducible refine Kd.C_alloc ?_ _) | (with_reducible refine Kd.C_drewN ?_ _) | (with_reducible refine Kd.C_drew ?_))); (case side6 => exact (Kd.R_reads' HO_314002.out).2.1); (case side7 => repeat (first | exact (Kd.R_reads' HO_287000.out).2.2 | (with_reducible refine Kd.C_alloc ?_ _) | (with_reducible refine Kd.C_drewN ?_ _) | (with_reducible refine Kd.C_drew ?_))); (case side8 => exact (Kd.R_reads' HO_287000.out).2.1); (case side9 => repeat (first | exact (Kd.R_reads' HO_287001.out).2.2 | (with_reducible refine Kd.C_alloc ?_ _) | (with_reducible refine Kd.C_drewN ?_ _) | (with_reducible refine Kd.C_drew ?_))); (case side10 => exact (Kd.R_reads' HO_287001.out).2.1); (case side11 => repeat (first | exact (Kd.R_reads' HO_287002.out).2.2 | (with_reducible refine Kd.C_alloc ?_ _) | (with_reducible refine Kd.C_drewN ?_ _) | (with_reducible refine Kd.C_drew ?_))); (case side12 => exact (Kd.R_reads' HO_287002.out).2.1); rintro e w125 ⟨rfl, hb⟩; replace HO_287000 := As.mk (Kd.R_below (by (with_reducible repeat (first | apply Kd.R_alloc | apply Kd.R_drewN | apply Kd.R_drew)); exact HO_287000.out) hb); replace HO_287001 := As.mk (Kd.R_below (by (with_reducible repeat (first | apply Kd.R_alloc | apply Kd.R_drewN | apply Kd.R_drew)); exact HO_287001.out) hb); replace HO_287002 := As.mk (Kd.R_below (by (with_reducible repeat (first | apply Kd.R_alloc | apply Kd.R_drewN | apply Kd.R_drew)); exact HO_287002.out) hb); replace HO_299000 := As.mk (Kd.R_below (by (with_reducible repeat (first | apply Kd.R_alloc | apply Kd.R_drewN | apply Kd.R_drew)); exact HO_299000.out) hb); replace HO_299001 := As.mk (Kd.R_below (by (with_reducible repeat (first | apply Kd.R_alloc | apply Kd.R_drewN | apply Kd.R_drew)); exact HO_299001.out) hb); replace HO_299002 := As.mk (Kd.R_below (by (with_reducible repeat (first | apply Kd.R_alloc | apply Kd.R_drewN | apply Kd.R_drew)); exact HO_299002.out) hb); replace HO_314000 := As.mk (Kd.R_below (by (with_reducible repeat (first | apply Kd.R_alloc | apply Kd.R_drewN | apply Kd.R_drew)); exact HO_314000.out) hb); replace HO_314001 := As.mk (Kd.R_below (by (with_reducible repeat (first | apply Kd.R_alloc | apply Kd.R_drewN | apply Kd.R_drew)); exact HO_314001.out) hb); replace HO_314002 := As.mk (Kd.R_below (by (with_reducible repeat (first | apply Kd.R_alloc | apply Kd.R_drewN | apply Kd.R_drew)); exact HO_314002.out) hb); replace BK258 := As.mk (blk_below (bx BK258.out) hb); replace BK259 := As.mk (blk_below (bx BK259.out) hb); replace BK286 := As.mk (blk_below (bx BK286.out) hb); replace BK298 := As.mk (blk_below (bx BK298.out) hb); replace BK313 := As.mk (blk_below (bx BK313.out) hb); replace HB := As.mk (below_step (be w) hb); (try clear hb); (try clear hb2); (try clear hk); (try clear hi)))
          go_meet
          case rel => exact ⟨_, (true), (by first | rfl | (simp; done) | (simp [*]; done)), H', ⟨by have := HJ3.out; have := HJ16.out; have := HJ82.out; have := HJ86.out; first | omega | exact Nat.le_refl _⟩, ⟨by (with_reducible repeat (first | apply Kd.R_alloc | apply Kd.R_drewN | apply Kd.R_drew)); exact HO_287000.out⟩, ⟨by (with_reducible repeat (first | apply Kd.R_alloc | apply Kd.R_drewN | apply Kd.R_drew)); exact HO_287001.out⟩, ⟨by (with_reducible repeat (first | apply Kd.R_alloc | apply Kd.R_drewN | apply Kd.R_drew)); exact HO_287002.out⟩, ⟨by (with_reducible repeat (first | apply Kd.R_alloc | apply Kd.R_drewN | apply Kd.R_drew)); exact HO_299000.out⟩, ⟨by (with_reducible repeat (first | apply Kd.R_alloc | apply Kd.R_drewN | apply Kd.R_drew)); exact HO_299001.out⟩, ⟨by (with_reducible repeat (first | apply Kd.R_alloc | apply Kd.R_drewN | apply Kd.R_drew)); exact HO_299002.out⟩, ⟨by (with_reducible repeat (first | apply Kd.R_alloc | apply Kd.R_drewN | apply Kd.R_drew)); exact HO_314000.out⟩, ⟨by (with_reducible repeat (first | apply Kd.R_alloc | apply Kd.R_drewN | apply Kd.R_drew)); exact HO_314001.out⟩, ⟨by (with_reducible repeat (first | apply Kd.R_alloc | apply Kd.R_drewN | apply Kd.R_drew)); exact HO_314002.out⟩, ⟨bx BK258.out⟩, ⟨bx BK259.out⟩, ⟨bx BK286.out⟩, ⟨bx BK298.out⟩, ⟨bx BK313.out⟩, ⟨be w⟩⟩
         case rest =>
          clear HC96
          (try clear hcz101_0); (try clear hcz101_1); (try clear hcz101_2); (try clear hcz101_3); (try clear hcz101_4); (try clear hfz101_0); (try clear hfz101_1); (try clear hfz101_2); (try clear hfz101_3); (try clear hfz101_4)
          obtain ⟨kq, x67_95, rfl, HA, HJ95, HO_287000, HO_287001, HO_287002, HO_299000, HO_299001, HO_299002, HO_314000, HO_314001, HO_314002, BK258, BK259, BK286, BK298, BK313, HB⟩ := hcut
          have hl299000_95 := (Kd.R_reads' HO_299000.out).1
          rw [hl299000_95] at HO_299000
          (try simp only [hl299000_95])
          (try simp only [hl299000_95] at BK258)
          (try simp only [hl299000_95] at BK259)
          (try simp only [hl299000_95] at BK286)
          (try simp only [hl299000_95] at BK298)
          (try simp only [hl299000_95] at BK313)
          (try simp only [hl299000_95] at HO_287000)
          (try simp only [hl299000_95] at HO_287001)
          (try simp only [hl299000_95] at HO_287002)
          (try simp only [hl299000_95] at HO_299001)
          (try simp only [hl299000_95] at HO_299002)
          (try simp only [hl299000_95] at HO_314000)
          (try simp only [hl299000_95] at HO_314001)
          (try simp only [hl299000_95] at HO_314002)
          have hl299001_95 := (Kd.R_reads' HO_299001.out).1
          rw [hl299001_95] at HO_299001
          (try simp only [hl299001_95])
          (try simp only [hl299001_95] at BK258)
          (try simp only [hl299001_95] at BK259)
          (try simp only [hl299001_95] at BK286)
          (try simp only [hl299001_95] at BK298)
          (try simp only [hl299001_95] at BK313)
          (try simp only [hl299001_95] at HO_287000)
          (try simp only [hl299001_95] at HO_287001)
          (try simp only [hl299001_95] at HO_287002)
          (try simp only [hl299001_95] at HO_299000)
          (try simp only [hl299001_95] at HO_299002)
          (try simp only [hl299001_95] at HO_314000)
          (try simp only [hl299001_95] at HO_314001)
          (try simp only [hl299001_95] at HO_314002)
          have hl299002_95 := (Kd.R_reads' HO_299002.out).1
          rw [hl299002_95] at HO_299002
          (try simp only [hl299002_95])
          (try simp only [hl299002_95] at BK258)
          (try simp only [hl299002_95] at BK259)
          (try simp only [hl299002_95] at BK286)
          (try simp only [hl299002_95] at BK298)
          (try simp only [hl299002_95] at BK313)
          (try simp only [hl299002_95] at HO_287000)
          (try simp only [hl299002_95] at HO_287001)
          (try simp only [hl299002_95] at HO_287002)
          (try simp only [hl299002_95] at HO_299000)
          (try simp only [hl299002_95] at HO_299001)
          (try simp only [hl299002_95] at HO_314000)
          (try simp only [hl299002_95] at HO_314001)
          (try simp only [hl299002_95] at HO_314002)
          cases kq with
          | zero => exact absurd HA.out (by simp [laws_FnExactLooked.j4])
          | succ kj95 =>
           have H := HA.out
           clear HA
           simp only [laws_FnExactLooked.j4] at H
           have HC126 := As.mk H
           clear H
           go_upto_if 67 with (fail)
           go_cut [] (fun wc => ∃ (kq : Nat), As (laws_FnExactLooked.j5 kq t285 l0_0 l0_1 l0_2 a0_3 a0_4 a1_0 a1_1 t274 t277 t280 t283 t284 t301 t304 t307 t310 t311 = some r) ∧ As (kq ≤ kj95) ∧ As (Kd.R k93 93 wc w.heap.size (fun k_ => some k_ ≠ ((.slice Ao40 t328.length co40) : Value).ownBlock ∧ some k_ ≠ ((.slice Ao53 t301.length co53) : Value).ownBlock) (.slice Ao27 t274.length co27) t274) ∧ As (Kd.R (Kd.int .i64) 3 wc w.heap.size (fun k_ => some k_ ≠ ((.slice Ao31 t280.length co31) : Value).ownBlock ∧ some k_ ≠ ((.slice Ao45 t329.length co45) : Value).ownBlock ∧ some k_ ≠ ((.slice Ao46 t330.length co46) : Value).ownBlock ∧ some k_ ≠ ((.slice Ao55 t304.length co55) : Value).ownBlock ∧ some k_ ≠ ((.slice Ao57 t307.length co57) : Value).ownBlock) (.slice Ao29 t277.length co29) t277) ∧ As (Kd.R (Kd.int .i64) 3 wc w.heap.size (fun k_ => some k_ ≠ ((.slice Ao29 t277.length co29) : Value).ownBlock ∧ some k_ ≠ ((.slice Ao45 t329.length co45) : Value).ownBlock ∧ some k_ ≠ ((.slice Ao46 t330.length co46) : Value).ownBlock ∧ some k_ ≠ ((.slice Ao55 t304.length co55) : Value).ownBlock ∧ some k_ ≠ ((.slice Ao57 t307.length co57) : Value).ownBlock) (.slice Ao31 t280.length co31) t280) ∧ As (Kd.R k93 93 wc w.heap.size (fun k_ => some k_ ≠ ((.slice Ao27 t274.length co27) : Value).ownBlock ∧ some k_ ≠ ((.slice Ao53 t301.length co53) : Value).ownBlock) (.slice Ao40 t328.length co40) t328) ∧ As (Kd.R (Kd.int .i64) 3 wc w.heap.size (fun k_ => some k_ ≠ ((.slice Ao29 t277.length co29) : Value).ownBlock ∧ some k_ ≠ ((.slice Ao31 t280.length co31) : Value).ownBlock ∧ some k_ ≠ ((.slice Ao46 t330.length co46) : Value).ownBlock ∧ some k_ ≠ ((.slice Ao55 t304.length co55) : Value).ownBlock ∧ some k_ ≠ ((.slice Ao57 t307.length co57) : Value).ownBlock) (.slice Ao45 t329.length co45) t329) ∧ As (Kd.R (Kd.int .i64) 3 wc w.heap.size (fun k_ => some k_ ≠ ((.slice Ao29 t277.length co29) : Value).ownBlock ∧ some k_ ≠ ((.slice Ao31 t280.length co31) : Value).ownBlock ∧ some k_ ≠ ((.slice Ao45 t329.length co45) : Value).ownBlock ∧ some k_ ≠ ((.slice Ao55 t304.length co55) : Value).ownBlock ∧ some k_ ≠ ((.slice Ao57 t307.length co57) : Value).ownBlock) (.slice Ao46 t330.length co46) t330) ∧ As (Kd.R k93 93 wc w.heap.size (fun k_ => some k_ ≠ ((.slice Ao27 t274.length co27) : Value).ownBlock ∧ some k_ ≠ ((.slice Ao40 t328.length co40) : Value).ownBlock) (.slice Ao53 t301.length co53) t301) ∧ As (Kd.R (Kd.int .i64) 3 wc w.heap.size (fun k_ => some k_ ≠ ((.slice Ao29 t277.length co29) : Value).ownBlock ∧ some k_ ≠ ((.slice Ao31 t280.length co31) : Value).ownBlock ∧ some k_ ≠ ((.slice Ao45 t329.length co45) : Value).ownBlock ∧ some k_ ≠ ((.slice Ao46 t330.length co46) : Value).ownBlock ∧ some k_ ≠ ((.slice Ao57 t307.length co57) : Value).ownBlock) (.slice Ao55 t304.length co55) t304) ∧ As (Kd.R (Kd.int .i64) 3 wc w.heap.size (fun k_ => some k_ ≠ ((.slice Ao29 t277.length co29) : Value).ownBlock ∧ some k_ ≠ ((.slice Ao31 t280.length co31) : Value).ownBlock ∧ some k_ ≠ ((.slice Ao45 t329.length co45) : Value).ownBlock ∧ some k_ ≠ ((.slice Ao46 t330.length co46) : Value).ownBlock ∧ some k_ ≠ ((.slice Ao55 t304.length co55) : Value).ownBlock) (.slice Ao57 t307.length co57) t307) ∧ As (wc.heap[gb258]? = some (.cells #[(.slice A0_0 l0_0.length c0_0), (.slice A0_1 l0_1.length c0_1), (.slice A0_2 l0_2.length c0_2), .int .i64 a0_3, .int .i64 a0_4] 47 (0, 0))) ∧ As (wc.heap[gb259]? = some (.cells #[.int .i64 a1_0, .int .i64 a1_1] 48 (0, 0))) ∧ As (wc.heap[gb286]? = some (.cells #[(.slice Ao27 t274.length co27), (.slice Ao29 t277.length co29), (.slice Ao31 t280.length co31), .int .i64 t283, .int .i64 t284] 34 (0, 0))) ∧ As (wc.heap[gb298]? = some (.cells #[(.slice Ao40 t328.length co40), (.slice Ao45 t329.length co45), (.slice Ao46 t330.length co46), .int .i64 t296, .int .i64 t297] 34 (0, 0))) ∧ As (wc.heap[gb313]? = some (.cells #[(.slice Ao53 t301.length co53), (.slice Ao55 t304.length co55), (.slice Ao57 t307.length co57), .int .i64 t310, .int .i64 t311] 34 (0, 0))) ∧ As (Below w.heap.size w wc))
           case first =>
            have H := HC126.out
            clear HC126
            by_cases c127 : x67_95 = true
            ·
             subst c127
             rw [if_pos rfl] at H
             exact absurd H (by rw [hrt.out]; simp)
            replace c127 := Bool.eq_false_iff.mpr c127
            subst c127
            rw [if_neg (show ¬ (false = true) by decide)] at H
            have H' := As.mk H
            clear H
            go_wp2
            go_meet
            case rel => exact ⟨_, H', ⟨by have := HJ3.out; have := HJ16.out; have := HJ82.out; have := HJ86.out; have := HJ95.out; first | omega | exact Nat.le_refl _⟩, ⟨by (try simp only [hl299000_95]); (try simp only [hl299001_95]); (try simp only [hl299002_95]); (with_reducible repeat (first | apply Kd.R_alloc | apply Kd.R_drewN | apply Kd.R_drew)); exact HO_287000.out⟩, ⟨by (try simp only [hl299000_95]); (try simp only [hl299001_95]); (try simp only [hl299002_95]); (with_reducible repeat (first | apply Kd.R_alloc | apply Kd.R_drewN | apply Kd.R_drew)); exact HO_287001.out⟩, ⟨by (try simp only [hl299000_95]); (try simp only [hl299001_95]); (try simp only [hl299002_95]); (with_reducible repeat (first | apply Kd.R_alloc | apply Kd.R_drewN | apply Kd.R_drew)); exact HO_287002.out⟩, ⟨by (try simp only [hl299000_95]); (try simp only [hl299001_95]); (try simp only [hl299002_95]); (with_reducible repeat (first | apply Kd.R_alloc | apply Kd.R_drewN | apply Kd.R_drew)); exact HO_299000.out⟩, ⟨by (try simp only [hl299000_95]); (try simp only [hl299001_95]); (try simp only [hl299002_95]); (with_reducible repeat (first | apply Kd.R_alloc | apply Kd.R_drewN | apply Kd.R_drew)); exact HO_299001.out⟩, ⟨by (try simp only [hl299000_95]); (try simp only [hl299001_95]); (try simp only [hl299002_95]); (with_reducible repeat (first | apply Kd.R_alloc | apply Kd.R_drewN | apply Kd.R_drew)); exact HO_299002.out⟩, ⟨by (try simp only [hl299000_95]); (try simp only [hl299001_95]); (try simp only [hl299002_95]); (with_reducible repeat (first | apply Kd.R_alloc | apply Kd.R_drewN | apply Kd.R_drew)); exact HO_314000.out⟩, ⟨by (try simp only [hl299000_95]); (try simp only [hl299001_95]); (try simp only [hl299002_95]); (with_reducible repeat (first | apply Kd.R_alloc | apply Kd.R_drewN | apply Kd.R_drew)); exact HO_314001.out⟩, ⟨by (try simp only [hl299000_95]); (try simp only [hl299001_95]); (try simp only [hl299002_95]); (with_reducible repeat (first | apply Kd.R_alloc | apply Kd.R_drewN | apply Kd.R_drew)); exact HO_314002.out⟩, ⟨by (try simp only [hl299000_95]); (try simp only [hl299001_95]); (try simp only [hl299002_95]); exact bx BK258.out⟩, ⟨by (try simp only [hl299000_95]); (try simp only [hl299001_95]); (try simp only [hl299002_95]); exact bx BK259.out⟩, ⟨by (try simp only [hl299000_95]); (try simp only [hl299001_95]); (try simp only [hl299002_95]); exact bx BK286.out⟩, ⟨by (try simp only [hl299000_95]); (try simp only [hl299001_95]); (try simp only [hl299002_95]); exact bx BK298.out⟩, ⟨by (try simp only [hl299000_95]); (try simp only [hl299001_95]); (try simp only [hl299002_95]); exact bx BK313.out⟩, ⟨be w⟩⟩
           case rest =>
            clear HC126
            (try clear hcz101_0); (try clear hcz101_1); (try clear hcz101_2); (try clear hcz101_3); (try clear hcz101_4); (try clear hfz101_0); (try clear hfz101_1); (try clear hfz101_2); (try clear hfz101_3); (try clear hfz101_4)
            obtain ⟨kq, HA, HJ125, HO_287000, HO_287001, HO_287002, HO_299000, HO_299001, HO_299002, HO_314000, HO_314001, HO_314002, BK258, BK259, BK286, BK298, BK313, HB⟩ := hcut
            cases kq with
            | zero => exact absurd HA.out (by simp [laws_FnExactLooked.j5])
            | succ kj125 =>
             have H := HA.out
             clear HA
             simp only [laws_FnExactLooked.j5] at H
             obtain ⟨⟨t332, t333, t334, t335⟩, A1280, H⟩ := Option.bind_eq_some_iff.mp H
             try dsimp only at H
             have A128 := As.mk A1280
             clear A1280
             obtain ⟨t336, A1290, H⟩ := Option.bind_eq_some_iff.mp H
             try dsimp only at H
             have A129 := As.mk A1290
             clear A1290
             have HC130 := As.mk H
             clear H
             have hnb131 := NB313_258.out
             have hnc131 := NB258_313.out
             have hnb132 := NB313_259.out
             have hnc132 := NB259_313.out
             have hnb133 := NB313_286.out
             have hnc133 := NB286_313.out
             have hnb134 := NB313_298.out
             have hnc134 := NB298_313.out
             obtain ⟨hcz135_0, hcz135_1, hcz135_2, hcz135_3, hcz135_4, hfz135_0, hfz135_1, hfz135_2, hfz135_3, hfz135_4⟩ := cl5 BK313.out
             go_upto_if 75 with (first | ((with_reducible refine gate_callee (f := 28) rfl ?_); refine goesL_ (some 70) rfl rfl Try.func28 (by kernel_rfl) rfl #[.agg #[.slice Ao53 t301.length co53, .slice Ao55 t304.length co55, .slice Ao57 t307.length co57, .int .i64 t310, .int .i64 t311], .int .i64 1] rfl (by (try simp only [lm]); first | done | rfl | (simp only [List.length_drop, List.length_take]; rfl)) ?_; (with_reducible refine (laws_markMemory.calls kj125 (fun k_ => some k_ = (.slice Ao53 t301.length co53 : Value).ownBlock) (.slice Ao53 t301.length co53) t301 (fun k_ => some k_ = (.slice Ao55 t304.length co55 : Value).ownBlock) (.slice Ao55 t304.length co55) t304 (fun k_ => some k_ = (.slice Ao57 t307.length co57 : Value).ownBlock) (.slice Ao57 t307.length co57) t307 t310 t311 1 t332 t333 t334 t335 w _ ?side1 ?side2 ?side3 ?side4 ?side5 ?side6 A128.out).mono ?_); (case side1 => repeat (first | (with_reducible first | exact HB.out | apply below_alloc | apply pw_below_drewN | apply below_drew1 | refine below_set ?_ GE258.out | refine below_set ?_ GE259.out | refine below_set ?_ GE286.out | refine below_set ?_ GE298.out | refine below_set ?_ GE313.out) | exact HB.out)); (case side2 => exact Kd.R_tight rfl HO_314000.out); (case side3 => exact Kd.R_tight rfl HO_314001.out); (case side4 => exact fun k_ e_ => (HO_314001.out.1 k_ e_.symm).2.2.2.2); (case side5 => exact Kd.R_tight rfl HO_314002.out); (case side6 => exact fun k_ e_ => (HO_314002.out.1 k_ e_.symm).2.2.2.2); rintro e w136 ⟨rfl, hy0, hy1, hy2, hb, hkp⟩; refine ⟨_, rfl, ?_⟩; replace HO_287000 := As.mk (Kd.R_mono (ok' := fun k_ => some k_ ≠ (.slice Ao40 t328.length co40 : Value).ownBlock ∧ some k_ ≠ (.slice Ao53 t301.length co53 : Value).ownBlock) (Kd.R_keptB ((Kd.R_apart' (Kd.R_apart' HO_287000.out (Kd.R_typed HO_314001.out) (by decide)) (Kd.R_typed HO_314002.out) (by decide))) hkp (fun k_ hk_ hs_ => Or.elim hs_ (fun e_ => (hk_.1.1.2) e_) (fun e_ => Or.elim e_ (fun e_ => (hk_.1.2) e_) (fun e_ => (hk_.2) e_)))) (fun k_ hk_ => ⟨hk_.1.1.1.1, hk_.1.1.1.2⟩)); replace HO_287001 := As.mk (Kd.R_mono (ok' := fun k_ => some k_ ≠ (.slice Ao31 t280.length co31 : Value).ownBlock ∧ some k_ ≠ (.slice Ao45 t329.length co45 : Value).ownBlock ∧ some k_ ≠ (.slice Ao46 t330.length co46 : Value).ownBlock ∧ some k_ ≠ (.slice Ao55 t304.length co55 : Value).ownBlock ∧ some k_ ≠ (.slice Ao57 t307.length co57 : Value).ownBlock) (Kd.R_keptB ((Kd.R_apart' HO_287001.out (Kd.R_typed HO_314000.out) (by decide))) hkp (fun k_ hk_ hs_ => Or.elim hs_ (fun e_ => (hk_.2) e_) (fun e_ => Or.elim e_ (fun e_ => (hk_.1.2.2.2.1) e_) (fun e_ => (hk_.1.2.2.2.2) e_)))) (fun k_ hk_ => ⟨hk_.1.1.1, hk_.1.1.2.1, hk_.1.1.2.2.1, hk_.1.1.2.2.2.1, hk_.1.1.2.2.2.2⟩)); replace HO_287002 := As.mk (Kd.R_mono (ok' := fun k_ => some k_ ≠ (.slice Ao29 t277.length co29 : Value).ownBlock ∧ some k_ ≠ (.slice Ao45 t329.length co45 : Value).ownBlock ∧ some k_ ≠ (.slice Ao46 t330.length co46 : Value).ownBlock ∧ some k_ ≠ (.slice Ao55 t304.length co55 : Value).ownBlock ∧ some k_ ≠ (.slice Ao57 t307.length co57 : Value).ownBlock) (Kd.R_keptB ((Kd.R_apart' HO_287002.out (Kd.R_typed HO_314000.out) (by decide))) hkp (fun k_ hk_ hs_ => Or.elim hs_ (fun e_ => (hk_.2) e_) (fun e_ => Or.elim e_ (fun e_ => (hk_.1.2.2.2.1) e_) (fun e_ => (hk_.1.2.2.2.2) e_)))) (fun k_ hk_ => ⟨hk_.1.1.1, hk_.1.1.2.1, hk_.1.1.2.2.1, hk_.1.1.2.2.2.1, hk_.1.1.2.2.2.2⟩)); replace HO_299000 := As.mk (Kd.R_mono (ok' := fun k_ => some k_ ≠ (.slice Ao27 t274.length co27 : Value).ownBlock ∧ some k_ ≠ (.slice Ao53 t301.length co53 : Value).ownBlock) (Kd.R_keptB ((Kd.R_apart' (Kd.R_apart' HO_299000.out (Kd.R_typed HO_314001.out) (by decide)) (Kd.R_typed HO_314002.out) (by decide))) hkp (fun k_ hk_ hs_ => Or.elim hs_ (fun e_ => (hk_.1.1.2) e_) (fun e_ => Or.elim e_ (fun e_ => (hk_.1.2) e_) (fun e_ => (hk_.2) e_)))) (fun k_ hk_ => ⟨hk_.1.1.1.1, hk_.1.1.1.2⟩)); replace HO_299001 := As.mk (Kd.R_mono (ok' := fun k_ => some k_ ≠ (.slice Ao29 t277.length co29 : Value).ownBlock ∧ some k_ ≠ (.slice Ao31 t280.length co31 : Value).ownBlock ∧ some k_ ≠ (.slice Ao46 t330.length co46 : Value).ownBlock ∧ some k_ ≠ (.slice Ao55 t304.length co55 : Value).ownBlock ∧ some k_ ≠ (.slice Ao57 t307.length co57 : Value).ownBlock) (Kd.R_keptB ((Kd.R_apart' HO_299001.out (Kd.R_typed HO_314000.out) (by decide))) hkp (fun k_ hk_ hs_ => Or.elim hs_ (fun e_ => (hk_.2) e_) (fun e_ => Or.elim e_ (fun e_ => (hk_.1.2.2.2.1) e_) (fun e_ => (hk_.1.2.2.2.2) e_)))) (fun k_ hk_ => ⟨hk_.1.1.1, hk_.1.1.2.1, hk_.1.1.2.2.1, hk_.1.1.2.2.2.1, hk_.1.1.2.2.2.2⟩)); replace HO_299002 := As.mk (Kd.R_mono (ok' := fun k_ => some k_ ≠ (.slice Ao29 t277.length co29 : Value).ownBlock ∧ some k_ ≠ (.slice Ao31 t280.length co31 : Value).ownBlock ∧ some k_ ≠ (.slice Ao45 t329.length co45 : Value).ownBlock ∧ some k_ ≠ (.slice Ao55 t304.length co55 : Value).ownBlock ∧ some k_ ≠ (.slice Ao57 t307.length co57 : Value).ownBlock) (Kd.R_keptB ((Kd.R_apart' HO_299002.out (Kd.R_typed HO_314000.out) (by decide))) hkp (fun k_ hk_ hs_ => Or.elim hs_ (fun e_ => (hk_.2) e_) (fun e_ => Or.elim e_ (fun e_ => (hk_.1.2.2.2.1) e_) (fun e_ => (hk_.1.2.2.2.2) e_)))) (fun k_ hk_ => ⟨hk_.1.1.1, hk_.1.1.2.1, hk_.1.1.2.2.1, hk_.1.1.2.2.2.1, hk_.1.1.2.2.2.2⟩)); replace BK258 := As.mk (blk_kept (bx BK258.out) hkp (fun hs_ => Or.elim hs_ (fun e_ => (fun e_ => (Kd.R_ne HO_314000.out BK258.out (by decide)) e_) e_) (fun e_ => Or.elim e_ (fun e_ => (fun e_ => (Kd.R_ne HO_314001.out BK258.out (by decide)) e_) e_) (fun e_ => (fun e_ => (Kd.R_ne HO_314002.out BK258.out (by decide)) e_) e_)))); replace BK259 := As.mk (blk_kept (bx BK259.out) hkp (fun hs_ => Or.elim hs_ (fun e_ => (fun e_ => (Kd.R_ne HO_314000.out BK259.out (by decide)) e_) e_) (fun e_ => Or.elim e_ (fun e_ => (fun e_ => (Kd.R_ne HO_314001.out BK259.out (by decide)) e_) e_) (fun e_ => (fun e_ => (Kd.R_ne HO_314002.out BK259.out (by decide)) e_) e_)))); replace BK286 := As.mk (blk_kept (bx BK286.out) hkp (fun hs_ => Or.elim hs_ (fun e_ => (fun e_ => (Kd.R_ne HO_314000.out BK286.out (by decide)) e_) e_) (fun e_ => Or.elim e_ (fun e_ => (fun e_ => (Kd.R_ne HO_314001.out BK286.out (by decide)) e_) e_) (fun e_ => (fun e_ => (Kd.R_ne HO_314002.out BK286.out (by decide)) e_) e_)))); replace BK298 := As.mk (blk_kept (bx BK298.out) hkp (fun hs_ => Or.elim hs_ (fun e_ => (fun e_ => (Kd.R_ne HO_314000.out BK298.out (by decide)) e_) e_) (fun e_ => Or.elim e_ (fun e_ => (fun e_ => (Kd.R_ne HO_314001.out BK298.out (by decide)) e_) e_) (fun e_ => (fun e_ => (Kd.R_ne HO_314002.out BK298.out (by decide)) e_) e_)))); replace BK313 := As.mk (blk_kept (bx BK313.out) hkp (fun hs_ => Or.elim hs_ (fun e_ => (fun e_ => (Kd.R_ne HO_314000.out BK313.out (by decide)) e_) e_) (fun e_ => Or.elim e_ (fun e_ => (fun e_ => (Kd.R_ne HO_314001.out BK313.out (by decide)) e_) e_) (fun e_ => (fun e_ => (Kd.R_ne HO_314002.out BK313.out (by decide)) e_) e_)))); replace HO_314000 := As.mk (Kd.R_reok rfl hy0 (fun k_ e_ => HO_314000.out.1 k_ e_)); replace HO_314001 := As.mk (Kd.R_reok rfl hy1 (fun k_ e_ => HO_314001.out.1 k_ e_)); replace HO_314002 := As.mk (Kd.R_reok rfl hy2 (fun k_ e_ => HO_314002.out.1 k_ e_)); replace HB := As.mk (hb); (try clear hb); (try clear hkp); (try clear hy0); (try clear hy1); (try clear hy2); obtain ⟨hcz137_0, hcz137_1, hcz137_2, hcz137_3, hcz137_4, hfz137_0, hfz137_1, hfz137_2, hfz137_3, hfz137_4⟩ := cl5 BK313.out) | ((with_reducible refine gate_callee (f := 29) rfl ?_); refine goesL_ (some 73) rfl rfl Try.func29 (by kernel_rfl) rfl #[.agg #[.slice Ao53 t333.length co53, .slice Ao55 t334.length co55, .slice Ao57 t335.length co57, .int .i64 t310, .int .i64 t311], .int .i64 1] rfl (by (try simp only [lm]); first | done | (rw [show t333.length = t301.length from (Kd.R_reads' HO_314000.out).1.symm, show t334.length = t304.length from (Kd.R_reads' HO_314001.out).1.symm, show t335.length = t307.length from (Kd.R_reads' HO_314002.out).1.symm] <;> rfl) | rfl | (simp only [List.length_drop, List.length_take]; rfl)) ?_; (with_reducible refine (laws_heldMemory.calls kj125 _ _ t333 _ _ t334 _ _ t335 t310 t311 1 t336 _ ?side1 ?side2 ?side3 ?side4 ?side5 ?side6 A129.out).mono ?_); (case side1 => repeat (first | exact (Kd.R_reads' HO_314000.out).2.2 | (with_reducible refine Kd.C_alloc ?_ _) | (with_reducible refine Kd.C_drewN ?_ _) | (with_reducible refine Kd.C_drew ?_))); (case side2 => rw [show t333.length = t301.length from (Kd.R_reads' HO_314000.out).1.symm]; exact (Kd.R_reads' HO_314000.out).2.1); (case side3 => repeat (first | exact (Kd.R_reads' HO_314001.out).2.2 | (with_reducible refine Kd.C_alloc ?_ _) | (with_reducible refine Kd.C_drewN ?_ _) | (with_reducible refine Kd.C_drew ?_))); (case side4 => rw [show t334.length = t304.length from (Kd.R_reads' HO_314001.out).1.symm]; exact (Kd.R_reads' HO_314001.out).2.1); (case side5 => repeat (first | exact (Kd.R_reads' HO_314002.out).2.2 | (with_reducible refine Kd.C_alloc ?_ _) | (with_reducible refine Kd.C_drewN ?_ _) | (with_reducible refine Kd.C_drew ?_))); (case side6 => rw [show t335.length = t307.length from (Kd.R_reads' HO_314002.out).1.symm]; exact (Kd.R_reads' HO_314002.out).2.1); rintro e w138 ⟨rfl, hb⟩; refine ⟨_, rfl, ?_⟩; replace HO_287000 := As.mk (Kd.R_below (by (with_reducible repeat (first | apply Kd.R_alloc | apply Kd.R_drewN | apply Kd.R_drew)); exact HO_287000.out) hb); replace HO_287001 := As.mk (Kd.R_below (by (with_reducible repeat (first | apply Kd.R_alloc | apply Kd.R_drewN | apply Kd.R_drew)); exact HO_287001.out) hb); replace HO_287002 := As.mk (Kd.R_below (by (with_reducible repeat (first | apply Kd.R_alloc | apply Kd.R_drewN | apply Kd.R_drew)); exact HO_287002.out) hb); replace HO_299000 := As.mk (Kd.R_below (by (with_reducible repeat (first | apply Kd.R_alloc | apply Kd.R_drewN | apply Kd.R_drew)); exact HO_299000.out) hb); replace HO_299001 := As.mk (Kd.R_below (by (with_reducible repeat (first | apply Kd.R_alloc | apply Kd.R_drewN | apply Kd.R_drew)); exact HO_299001.out) hb); replace HO_299002 := As.mk (Kd.R_below (by (with_reducible repeat (first | apply Kd.R_alloc | apply Kd.R_drewN | apply Kd.R_drew)); exact HO_299002.out) hb); replace HO_314000 := As.mk (Kd.R_below (by (with_reducible repeat (first | apply Kd.R_alloc | apply Kd.R_drewN | apply Kd.R_drew)); exact HO_314000.out) hb); replace HO_314001 := As.mk (Kd.R_below (by (with_reducible repeat (first | apply Kd.R_alloc | apply Kd.R_drewN | apply Kd.R_drew)); exact HO_314001.out) hb); replace HO_314002 := As.mk (Kd.R_below (by (with_reducible repeat (first | apply Kd.R_alloc | apply Kd.R_drewN | apply Kd.R_drew)); exact HO_314002.out) hb); replace BK258 := As.mk (blk_below (bx BK258.out) hb); replace BK259 := As.mk (blk_below (bx BK259.out) hb); replace BK286 := As.mk (blk_below (bx BK286.out) hb); replace BK298 := As.mk (blk_below (bx BK298.out) hb); replace BK313 := As.mk (blk_below (bx BK313.out) hb); replace HB := As.mk (below_step (be w) hb); (try clear hb); (try clear hb2); (try clear hk); (try clear hi)))
             (try simp only [pk])
             go_cut [] (fun wc => ∃ (kq : Nat), As (laws_FnExactLooked.j6 kq t285 t332 t336 l0_0 l0_1 l0_2 a0_3 a0_4 a1_0 a1_1 t274 t277 t280 t283 t284 t333 t334 t335 t310 t311 = some r) ∧ As (kq ≤ kj125) ∧ As (Kd.R k93 93 wc w.heap.size (fun k_ => some k_ ≠ ((.slice Ao40 t328.length co40) : Value).ownBlock ∧ some k_ ≠ ((.slice Ao53 t301.length co53) : Value).ownBlock) (.slice Ao27 t274.length co27) t274) ∧ As (Kd.R (Kd.int .i64) 3 wc w.heap.size (fun k_ => some k_ ≠ ((.slice Ao31 t280.length co31) : Value).ownBlock ∧ some k_ ≠ ((.slice Ao45 t329.length co45) : Value).ownBlock ∧ some k_ ≠ ((.slice Ao46 t330.length co46) : Value).ownBlock ∧ some k_ ≠ ((.slice Ao55 t304.length co55) : Value).ownBlock ∧ some k_ ≠ ((.slice Ao57 t307.length co57) : Value).ownBlock) (.slice Ao29 t277.length co29) t277) ∧ As (Kd.R (Kd.int .i64) 3 wc w.heap.size (fun k_ => some k_ ≠ ((.slice Ao29 t277.length co29) : Value).ownBlock ∧ some k_ ≠ ((.slice Ao45 t329.length co45) : Value).ownBlock ∧ some k_ ≠ ((.slice Ao46 t330.length co46) : Value).ownBlock ∧ some k_ ≠ ((.slice Ao55 t304.length co55) : Value).ownBlock ∧ some k_ ≠ ((.slice Ao57 t307.length co57) : Value).ownBlock) (.slice Ao31 t280.length co31) t280) ∧ As (Kd.R k93 93 wc w.heap.size (fun k_ => some k_ ≠ ((.slice Ao27 t274.length co27) : Value).ownBlock ∧ some k_ ≠ ((.slice Ao53 t301.length co53) : Value).ownBlock) (.slice Ao40 t328.length co40) t328) ∧ As (Kd.R (Kd.int .i64) 3 wc w.heap.size (fun k_ => some k_ ≠ ((.slice Ao29 t277.length co29) : Value).ownBlock ∧ some k_ ≠ ((.slice Ao31 t280.length co31) : Value).ownBlock ∧ some k_ ≠ ((.slice Ao46 t330.length co46) : Value).ownBlock ∧ some k_ ≠ ((.slice Ao55 t304.length co55) : Value).ownBlock ∧ some k_ ≠ ((.slice Ao57 t307.length co57) : Value).ownBlock) (.slice Ao45 t329.length co45) t329) ∧ As (Kd.R (Kd.int .i64) 3 wc w.heap.size (fun k_ => some k_ ≠ ((.slice Ao29 t277.length co29) : Value).ownBlock ∧ some k_ ≠ ((.slice Ao31 t280.length co31) : Value).ownBlock ∧ some k_ ≠ ((.slice Ao45 t329.length co45) : Value).ownBlock ∧ some k_ ≠ ((.slice Ao55 t304.length co55) : Value).ownBlock ∧ some k_ ≠ ((.slice Ao57 t307.length co57) : Value).ownBlock) (.slice Ao46 t330.length co46) t330) ∧ As (Kd.R k93 93 wc w.heap.size (fun k_ => some k_ ≠ ((.slice Ao27 t274.length co27) : Value).ownBlock ∧ some k_ ≠ ((.slice Ao40 t328.length co40) : Value).ownBlock) (.slice Ao53 t301.length co53) t333) ∧ As (Kd.R (Kd.int .i64) 3 wc w.heap.size (fun k_ => some k_ ≠ ((.slice Ao29 t277.length co29) : Value).ownBlock ∧ some k_ ≠ ((.slice Ao31 t280.length co31) : Value).ownBlock ∧ some k_ ≠ ((.slice Ao45 t329.length co45) : Value).ownBlock ∧ some k_ ≠ ((.slice Ao46 t330.length co46) : Value).ownBlock ∧ some k_ ≠ ((.slice Ao57 t307.length co57) : Value).ownBlock) (.slice Ao55 t304.length co55) t334) ∧ As (Kd.R (Kd.int .i64) 3 wc w.heap.size (fun k_ => some k_ ≠ ((.slice Ao29 t277.length co29) : Value).ownBlock ∧ some k_ ≠ ((.slice Ao31 t280.length co31) : Value).ownBlock ∧ some k_ ≠ ((.slice Ao45 t329.length co45) : Value).ownBlock ∧ some k_ ≠ ((.slice Ao46 t330.length co46) : Value).ownBlock ∧ some k_ ≠ ((.slice Ao55 t304.length co55) : Value).ownBlock) (.slice Ao57 t307.length co57) t335) ∧ As (wc.heap[gb258]? = some (.cells #[(.slice A0_0 l0_0.length c0_0), (.slice A0_1 l0_1.length c0_1), (.slice A0_2 l0_2.length c0_2), .int .i64 a0_3, .int .i64 a0_4] 47 (0, 0))) ∧ As (wc.heap[gb259]? = some (.cells #[.int .i64 a1_0, .int .i64 a1_1] 48 (0, 0))) ∧ As (wc.heap[gb286]? = some (.cells #[(.slice Ao27 t274.length co27), (.slice Ao29 t277.length co29), (.slice Ao31 t280.length co31), .int .i64 t283, .int .i64 t284] 34 (0, 0))) ∧ As (wc.heap[gb298]? = some (.cells #[(.slice Ao40 t328.length co40), (.slice Ao45 t329.length co45), (.slice Ao46 t330.length co46), .int .i64 t296, .int .i64 t297] 34 (0, 0))) ∧ As (wc.heap[gb313]? = some (.cells #[(.slice Ao53 t301.length co53), (.slice Ao55 t304.length co55), (.slice Ao57 t307.length co57), .int .i64 t310, .int .i64 t311] 34 (0, 0))) ∧ As (Below w.heap.size w wc))
             case first =>
              have H := HC130.out
              clear HC130
              by_cases c139 : t336 < 0
              ·
               rw [if_pos c139] at H
               have c139b0 : decide (t336 < 0) = true := decide_eq_true c139
               clear c139
               (first | rw [c139b0] | (simp only [i64_w, i32_w]; rw [c139b0]) | skip)
               exact absurd H (by rw [hrt.out]; simp)
              rw [if_neg c139] at H
              have c139b0 : decide (t336 < 0) = false := decide_eq_false c139
              clear c139
              (first | rw [c139b0] | (simp only [i64_w, i32_w]; rw [c139b0]) | skip)
              have H' := As.mk H
              clear H
              go_wp2
              go_meet
              case rel => exact ⟨_, H', ⟨by have := HJ3.out; have := HJ16.out; have := HJ82.out; have := HJ86.out; have := HJ95.out; have := HJ125.out; first | omega | exact Nat.le_refl _⟩, ⟨by (try simp only [hl299000_95]); (try simp only [hl299001_95]); (try simp only [hl299002_95]); (with_reducible repeat (first | apply Kd.R_alloc | apply Kd.R_drewN | apply Kd.R_drew)); exact HO_287000.out⟩, ⟨by (try simp only [hl299000_95]); (try simp only [hl299001_95]); (try simp only [hl299002_95]); (with_reducible repeat (first | apply Kd.R_alloc | apply Kd.R_drewN | apply Kd.R_drew)); exact HO_287001.out⟩, ⟨by (try simp only [hl299000_95]); (try simp only [hl299001_95]); (try simp only [hl299002_95]); (with_reducible repeat (first | apply Kd.R_alloc | apply Kd.R_drewN | apply Kd.R_drew)); exact HO_287002.out⟩, ⟨by (try simp only [hl299000_95]); (try simp only [hl299001_95]); (try simp only [hl299002_95]); (with_reducible repeat (first | apply Kd.R_alloc | apply Kd.R_drewN | apply Kd.R_drew)); exact HO_299000.out⟩, ⟨by (try simp only [hl299000_95]); (try simp only [hl299001_95]); (try simp only [hl299002_95]); (with_reducible repeat (first | apply Kd.R_alloc | apply Kd.R_drewN | apply Kd.R_drew)); exact HO_299001.out⟩, ⟨by (try simp only [hl299000_95]); (try simp only [hl299001_95]); (try simp only [hl299002_95]); (with_reducible repeat (first | apply Kd.R_alloc | apply Kd.R_drewN | apply Kd.R_drew)); exact HO_299002.out⟩, ⟨by (try simp only [hl299000_95]); (try simp only [hl299001_95]); (try simp only [hl299002_95]); (with_reducible repeat (first | apply Kd.R_alloc | apply Kd.R_drewN | apply Kd.R_drew)); exact HO_314000.out⟩, ⟨by (try simp only [hl299000_95]); (try simp only [hl299001_95]); (try simp only [hl299002_95]); (with_reducible repeat (first | apply Kd.R_alloc | apply Kd.R_drewN | apply Kd.R_drew)); exact HO_314001.out⟩, ⟨by (try simp only [hl299000_95]); (try simp only [hl299001_95]); (try simp only [hl299002_95]); (with_reducible repeat (first | apply Kd.R_alloc | apply Kd.R_drewN | apply Kd.R_drew)); exact HO_314002.out⟩, ⟨by (try simp only [hl299000_95]); (try simp only [hl299001_95]); (try simp only [hl299002_95]); exact bx BK258.out⟩, ⟨by (try simp only [hl299000_95]); (try simp only [hl299001_95]); (try simp only [hl299002_95]); exact bx BK259.out⟩, ⟨by (try simp only [hl299000_95]); (try simp only [hl299001_95]); (try simp only [hl299002_95]); exact bx BK286.out⟩, ⟨by (try simp only [hl299000_95]); (try simp only [hl299001_95]); (try simp only [hl299002_95]); exact bx BK298.out⟩, ⟨by (try simp only [hl299000_95]); (try simp only [hl299001_95]); (try simp only [hl299002_95]); exact bx BK313.out⟩, ⟨be w⟩⟩
             case rest =>
              (repeat revert ‹List S93›)
              (repeat revert ‹S93›)
              (repeat revert ‹List S98›)
              (repeat revert ‹S98›)
              (repeat revert ‹Nat›)
              (repeat revert ‹Int›)
              (repeat revert ‹Bool›)
              (repeat revert ‹Value›)
              (repeat revert ‹World›)
              (repeat revert ‹Option Addr›)
              (repeat revert ‹ByteArray›)
              (repeat revert ‹List Int›)
              (repeat revert ‹List ByteArray›)
              (repeat revert ‹List Value›)
              (repeat revert ‹Act → World → Prop›)
              (repeat revert ‹Act›)
              exact hG_.out⟩

end Go.Proofs.Ytnlhjblfemgggaa.PFnExactLooked
