/- Written by a program of this session (a turned copy of the kit's print): a contract for each Go function. No condition beside those in each statement. -/
import Derived.Test.YtnlhjblfemgggaaPFnExactWrittenx0
import Derived.Test.YtnlhjblfemgggaaPFnExactWrittenx1
import Derived.Test.YtnlhjblfemgggaaPFnExactWrittenx2
import Derived.Test.YtnlhjblfemgggaaPFnExactWrittenx3
import Derived.Test.YtnlhjblfemgggaaPFnExactWrittenx4
namespace Go.Proofs.Ytnlhjblfemgggaa.PFnExactWritten
open Go.RowKit Go.Proofs.YtnlhjblfemgggaaW.PrintWords Go.Proofs.YtnlhjblfemgggaaW.PrintLast Go.Proofs.YtnlhjblfemgggaaW.PrintMore
attribute [local go_sem] max2_int min2_int max_two min_two max_three min_three max_four min_four   -- for this text's walks alone
set_option linter.unusedVariables false
set_option linter.unusedSimpArgs false

def laws_FnExactWritten.T5 : Bool × List (List Nat × List Nat) := (true, [([], []), ([0], [0]), ([], []), ([2, 1], [2]), ([], []), ([1, 3, 4, 3], [1, 3, 4]), ([], []), ([6, 5, 5, 0, 1, 2, 3, 4, 5, 6], [5, 6])])
def laws_FnExactWritten.B5 : List Nat := [0, 1, 0, 7, 0, 31, 0, 127]
theorem laws_FnExactWritten.tab5 : rtab .any (opsOf Try.f7 5) = laws_FnExactWritten.T5 := by kernel_rfl
theorem laws_FnExactWritten.bits5 : waitsOk laws_FnExactWritten.T5.2 laws_FnExactWritten.B5 = true := by kernel_rfl
def laws_FnExactWritten.T24 : Bool × List (List Nat × List Nat) := (true, [([], []), ([0], [0]), ([], []), ([2, 1], [2]), ([], []), ([1, 3, 4, 3], [1, 3, 4]), ([], []), ([6, 5, 5, 0, 1, 2, 3, 4, 5, 6], [5, 6])])
def laws_FnExactWritten.B24 : List Nat := [0, 1, 0, 7, 0, 31, 0, 127]
theorem laws_FnExactWritten.tab24 : rtab .any (opsOf Try.f7 24) = laws_FnExactWritten.T24 := by kernel_rfl
theorem laws_FnExactWritten.bits24 : waitsOk laws_FnExactWritten.T24.2 laws_FnExactWritten.B24 = true := by kernel_rfl
set_option maxHeartbeats 8000000 in
set_option maxRecDepth 100000 in
def laws_FnExactWritten.callsP0 :
  {G_ : Prop // RestG G_ → ∀ (k : Nat) (A0_0 : Option Addr) (c0_0 : Nat) (l0_0 : List (S98)) (A0_1 : Option Addr) (c0_1 : Nat) (l0_1 : List Int) (A0_2 : Option Addr) (c0_2 : Nat) (l0_2 : List Int) (a0_3 : Int) (a0_4 : Int) (a1_0 : Int) (a1_1 : Int) (a2 : Int) (r : Bool) (w : World) (hr0_0 : Kd.C k98 w A0_0 l0_0.length l0_0) (hc0_0 : l0_0.length ≤ c0_0) (hr0_1 : Kd.C (Kd.int .i64) w A0_1 l0_1.length l0_1) (hc0_1 : l0_1.length ≤ c0_1) (hr0_2 : Kd.C (Kd.int .i64) w A0_2 l0_2.length l0_2) (hc0_2 : l0_2.length ≤ c0_2) (hrt : As (r = true)) (h : laws_FnExactWritten.f k l0_0 l0_1 l0_2 a0_3 a0_4 a1_0 a1_1 a2 = some r),
  Calls Try.prog 7 #[.agg #[.slice A0_0 l0_0.length c0_0, .slice A0_1 l0_1.length c0_1, .slice A0_2 l0_2.length c0_2, .int .i64 a0_3, .int .i64 a0_4], .agg #[.int .i64 a1_0, .int .i64 a1_1], .int .i64 a2] w fun e w' => e = .returned (.bool r) ∧ Below w.heap.size w w'} := ⟨_, by
 intro hG_
 intro k A0_0 c0_0 l0_0 A0_1 c0_1 l0_1 A0_2 c0_2 l0_2 a0_3 a0_4 a1_0 a1_1 a2 r w hr0_0 hc0_0 hr0_1 hc0_1 hr0_2 hc0_2 hrt h
 have hu47 := Try.underlying47
 have hu48 := Try.underlying48
 have hu34 := Try.underlying34
 have HR0_0 := As.mk hr0_0
 have HC0_0 := As.mk hc0_0
 clear hr0_0 hc0_0
 have HR0_1 := As.mk hr0_1
 have HC0_1 := As.mk hc0_1
 clear hr0_1 hc0_1
 have HR0_2 := As.mk hr0_2
 have HC0_2 := As.mk hc0_2
 clear hr0_2 hc0_2
 have HB := As.mk (Below.refl w.heap.size w)
 have H : ((laws_szMemory.f l0_0 l0_1 l0_2 a0_3 a0_4 1048576).bind fun t258 => (if t258 < 0 then (some true) else (laws_FnExactWritten.j0 k a2 l0_0 l0_1 l0_2 a0_3 a0_4 a1_0 a1_1))) = some r := h
 clear h
 obtain ⟨t258, A40, H⟩ := Option.bind_eq_some_iff.mp H
 try dsimp only at H
 have A4 := As.mk A40
 clear A40
 have HC5 := As.mk H
 clear H
 go_enter Try.func7, Try.ntmps7
 go_upto_if 19 with (first | ((with_reducible refine gate_dst (N := 3) rfl ?_); refine box_event ?hg (N := 3) ?hd (cs := #[.slice A0_0 l0_0.length c0_0, .slice A0_1 l0_1.length c0_1, .slice A0_2 l0_2.length c0_2, .int .i64 a0_3, .int .i64 a0_4]) (t := 47) ?hr ?_; (case hd => rfl); (case hg => rfl); (case hr => first | (go_simp; done) | (go_simp; rfl)); intro gb256 hg w6 hbox hb; have BK256 := As.mk (hbox); have GW256 := As.mk (gs w hg); have GE256 := As.mk (gs w hg); replace HB := As.mk (below_step (be w) hb); clear hb hbox hg) | ((with_reducible refine gate_dst (N := 4) rfl ?_); refine box_event ?hg (N := 4) ?hd (cs := #[.int .i64 a1_0, .int .i64 a1_1]) (t := 48) ?hr ?_; (case hd => rfl); (case hg => rfl); (case hr => first | (go_simp; done) | (go_simp; rfl)); intro gb257 hg w7 hbox hb; have BK257 := As.mk (hbox); have GW257 := As.mk (gs w hg); have GE257 := As.mk (gs w hg); replace HB := As.mk (below_step (be w) hb); have NB256_257 := As.mk (nl hg (bx BK256.out)); have NB257_256 := As.mk (ng hg (bx BK256.out)); replace BK256 := As.mk (blk_below (bx BK256.out) hb); clear hb hbox hg; have hnb8 := NB256_257.out; have hnc8 := NB257_256.out; obtain ⟨hcz9_0, hcz9_1, hcz9_2, hcz9_3, hcz9_4, hfz9_0, hfz9_1, hfz9_2, hfz9_3, hfz9_4⟩ := cl5 BK256.out) | ((with_reducible refine gate_callee (f := 23) rfl ?_); refine goesL_ (some 17) rfl rfl Try.func23 (by kernel_rfl) rfl #[.agg #[.slice A0_0 l0_0.length c0_0, .slice A0_1 l0_1.length c0_1, .slice A0_2 l0_2.length c0_2, .int .i64 a0_3, .int .i64 a0_4], .int .i64 1048576] rfl (by (try simp only [lm]); first | done | rfl | (simp only [List.length_drop, List.length_take]; rfl)) ?_; (with_reducible refine (laws_szMemory.calls _ _ l0_0 _ _ l0_1 _ _ l0_2 a0_3 a0_4 1048576 t258 _ ?side1 ?side2 ?side3 ?side4 ?side5 ?side6 A4.out).mono ?_); (case side1 => exact Kd.C_below HR0_0.out (be w)); (case side2 => exact HC0_0.out); (case side3 => exact Kd.C_below HR0_1.out (be w)); (case side4 => exact HC0_1.out); (case side5 => exact Kd.C_below HR0_2.out (be w)); (case side6 => exact HC0_2.out); rintro e w10 ⟨rfl, hb⟩; refine ⟨_, rfl, ?_⟩; replace BK256 := As.mk (blk_below (bx BK256.out) hb); replace BK257 := As.mk (blk_below (bx BK257.out) hb); replace HB := As.mk (below_step (be w) hb); (try clear hb); (try clear hb2); (try clear hk); (try clear hi)))
 (try simp only [pk])
 go_cut [] (fun wc => ∃ (kq : Nat), As (laws_FnExactWritten.j0 kq a2 l0_0 l0_1 l0_2 a0_3 a0_4 a1_0 a1_1 = some r) ∧ As (kq ≤ k) ∧ As (wc.heap[gb256]? = some (.cells #[(.slice A0_0 l0_0.length c0_0), (.slice A0_1 l0_1.length c0_1), (.slice A0_2 l0_2.length c0_2), .int .i64 a0_3, .int .i64 a0_4] 47 (0, 0))) ∧ As (wc.heap[gb257]? = some (.cells #[.int .i64 a1_0, .int .i64 a1_1] 48 (0, 0))) ∧ As (Below w.heap.size w wc))
 case first =>
  have H := HC5.out
  clear HC5
  by_cases c11 : t258 < 0
  ·
   rw [if_pos c11] at H
   have c11b0 : decide (t258 < 0) = true := decide_eq_true c11
   clear c11
   (first | rw [c11b0] | (simp only [i64_w, i32_w]; rw [c11b0]) | skip)
   obtain rfl := Option.some.inj H
   go_wp2
   go_ret
   exact ⟨by first | rfl | (simp [errW_none, errW_some] <;> rfl) | (simp [*, errW_none, errW_some] <;> rfl), be w⟩
  rw [if_neg c11] at H
  have c11b0 : decide (t258 < 0) = false := decide_eq_false c11
  clear c11
  (first | rw [c11b0] | (simp only [i64_w, i32_w]; rw [c11b0]) | skip)
  have H' := As.mk H
  clear H
  go_wp2
  go_meet
  case rel => exact ⟨_, H', ⟨by first | omega | exact Nat.le_refl _⟩, ⟨bx BK256.out⟩, ⟨bx BK257.out⟩, ⟨be w⟩⟩
 case rest =>
  clear HC5
  (try clear hcz9_0); (try clear hcz9_1); (try clear hcz9_2); (try clear hcz9_3); (try clear hcz9_4); (try clear hfz9_0); (try clear hfz9_1); (try clear hfz9_2); (try clear hfz9_3); (try clear hfz9_4)
  obtain ⟨kq, HA, HJ4, BK256, BK257, HB⟩ := hcut
  cases kq with
  | zero => exact absurd HA.out (by simp [laws_FnExactWritten.j0])
  | succ kj4 =>
   have H := HA.out
   clear HA
   simp only [laws_FnExactWritten.j0] at H
   obtain ⟨⟨t259, t262, t265, t268, t269⟩, A120, H⟩ := Option.bind_eq_some_iff.mp H
   try dsimp only at H
   have A12 := As.mk A120
   clear A120
   obtain ⟨⟨t270, t271⟩, A130, H⟩ := Option.bind_eq_some_iff.mp H
   try dsimp only at H
   have A13 := As.mk A130
   clear A130
   obtain ⟨⟨t272, t275, t278, t281, t282⟩, A140, H⟩ := Option.bind_eq_some_iff.mp H
   try dsimp only at H
   have A14 := As.mk A140
   clear A140
   obtain ⟨⟨t284, t287, t290, t293, t294⟩, A150, H⟩ := Option.bind_eq_some_iff.mp H
   try dsimp only at H
   have A15 := As.mk A150
   clear A150
   obtain ⟨⟨t296, t297⟩, A160, H⟩ := Option.bind_eq_some_iff.mp H
   try dsimp only at H
   have A16 := As.mk A160
   clear A160
   obtain ⟨⟨t298, t301, t304, t307, t308⟩, A170, H⟩ := Option.bind_eq_some_iff.mp H
   try dsimp only at H
   have A17 := As.mk A170
   clear A170
   obtain ⟨t310, A180, H⟩ := Option.bind_eq_some_iff.mp H
   try dsimp only at H
   have A18 := As.mk A180
   clear A180
   have HC19 := As.mk H
   clear H
   try go_wp2
   replace BK256 := As.mk (blk_drew BK256.out)
   replace BK257 := As.mk (blk_drew BK257.out)
   replace HB := As.mk (below_drew1 HB.out)
   refine start_ (n := 8) (S := fun w' => w'.cell? ⟨gb256, 0, none⟩ = some (.slice A0_0 l0_0.length c0_0) ∧ w'.cell? ⟨gb256, 1, none⟩ = some (.slice A0_1 l0_1.length c0_1) ∧ w'.cell? ⟨gb256, 2, none⟩ = some (.slice A0_2 l0_2.length c0_2) ∧ w'.cell? ⟨gb256, 3, none⟩ = some (.int .i64 a0_3) ∧ w'.cell? ⟨gb256, 4, none⟩ = some (.int .i64 a0_4) ∧ w'.cell? ⟨gb257, 0, none⟩ = some (.int .i64 a1_0) ∧ w'.cell? ⟨gb257, 1, none⟩ = some (.int .i64 a1_1)) (ds := []) #[O, O, O, O, O, O, O, O] (by kernel_rfl) rfl rfl ⟨(blk_cell BK256.out 0).trans rfl, (blk_cell BK256.out 1).trans rfl, (blk_cell BK256.out 2).trans rfl, (blk_cell BK256.out 3).trans rfl, (blk_cell BK256.out 4).trans rfl, (blk_cell BK257.out 0).trans rfl, (blk_cell BK257.out 1).trans rfl⟩ (fun hHeld => ?_); refine with_tabW laws_FnExactWritten.tab5 laws_FnExactWritten.bits5 (fun HT_ HW_ => ?_)
   generalize wc.drew = w20 at BK256 BK257 HB hHeld ⊢
   refine pure_ (i := 4) (N := some 24) (v := ?_) (a' := ?_) #[O, O, O, O, I, O, O, O] rfl rfl (any_of HT_.out (by kernel_rfl)) (fun _ _ _ h => h) (Or.inl ⟨by rfl, ?_⟩) ?_ ?_
   rotate_left
   ·
    intro w'
    go_simp
    with_reducible rfl
   rotate_left
   ·
    simp only [pk, i64_w, i32_w]
    rfl
   refine take_ (i := 0) (N := some 20) (v := ?_) (a' := ?_) #[I, O, O, O, I, O, O, O] rfl rfl (take_ofW HT_.out HW_.out (by kernel_rfl)) (fun _ _ _ h => h) (Or.inl ⟨by rfl, ?_⟩) hHeld ?_ ?_
   rotate_left
   ·
    rintro w' ⟨s0, s1, s2, s3, s4, s5, s6⟩
    go_simp
    with_reducible rfl
   rotate_left
   ·
    simp only [pk, i64_w, i32_w]
    rfl
   refine take_ (i := 2) (N := some 22) (v := ?_) (a' := ?_) #[I, O, I, O, I, O, O, O] rfl rfl (take_ofW HT_.out HW_.out (by kernel_rfl)) (fun _ _ _ h => h) (Or.inl ⟨by rfl, ?_⟩) hHeld ?_ ?_
   rotate_left
   ·
    rintro w' ⟨s0, s1, s2, s3, s4, s5, s6⟩
    go_simp
    with_reducible rfl
   rotate_left
   ·
    simp only [pk, i64_w, i32_w]
    rfl
   refine join_ (σ := Value × Value × Value × Value × Value × Value × Nat) 1 #[true, true, true, true, true, true, true, false] (fun s_ => [(21, .agg #[s_.1, s_.2.1, s_.2.2.1, .int .i64 t268, .int .i64 t269]), (23, .agg #[.int .i64 t270, .int .i64 t271]), (25, .agg #[s_.2.2.2.1, s_.2.2.2.2.1, s_.2.2.2.2.2.1, .int .i64 t281, .int .i64 t282]), (8, .pointer (some ⟨s_.2.2.2.2.2.2, 0, none⟩))]) (fun s_ w' => (w'.cell? ⟨gb256, 0, none⟩ = some (.slice A0_0 l0_0.length c0_0) ∧ w'.cell? ⟨gb256, 1, none⟩ = some (.slice A0_1 l0_1.length c0_1) ∧ w'.cell? ⟨gb256, 2, none⟩ = some (.slice A0_2 l0_2.length c0_2) ∧ w'.cell? ⟨gb256, 3, none⟩ = some (.int .i64 a0_3) ∧ w'.cell? ⟨gb256, 4, none⟩ = some (.int .i64 a0_4) ∧ w'.cell? ⟨gb257, 0, none⟩ = some (.int .i64 a1_0) ∧ w'.cell? ⟨gb257, 1, none⟩ = some (.int .i64 a1_1)) ∧ (Kd.R k93 93 w' w.heap.size (fun k_ => some k_ ≠ (s_.2.2.2.1 : Value).ownBlock) s_.1 t259) ∧ (Kd.R (Kd.int .i64) 3 w' w.heap.size (fun k_ => some k_ ≠ (s_.2.2.1 : Value).ownBlock ∧ some k_ ≠ (s_.2.2.2.2.1 : Value).ownBlock ∧ some k_ ≠ (s_.2.2.2.2.2.1 : Value).ownBlock) s_.2.1 t262) ∧ (Kd.R (Kd.int .i64) 3 w' w.heap.size (fun k_ => some k_ ≠ (s_.2.1 : Value).ownBlock ∧ some k_ ≠ (s_.2.2.2.2.1 : Value).ownBlock ∧ some k_ ≠ (s_.2.2.2.2.2.1 : Value).ownBlock) s_.2.2.1 t265) ∧ (Kd.R k93 93 w' w.heap.size (fun k_ => some k_ ≠ (s_.1 : Value).ownBlock) s_.2.2.2.1 t272) ∧ (Kd.R (Kd.int .i64) 3 w' w.heap.size (fun k_ => some k_ ≠ (s_.2.1 : Value).ownBlock ∧ some k_ ≠ (s_.2.2.1 : Value).ownBlock ∧ some k_ ≠ (s_.2.2.2.2.2.1 : Value).ownBlock) s_.2.2.2.2.1 t275) ∧ (Kd.R (Kd.int .i64) 3 w' w.heap.size (fun k_ => some k_ ≠ (s_.2.1 : Value).ownBlock ∧ some k_ ≠ (s_.2.2.1 : Value).ownBlock ∧ some k_ ≠ (s_.2.2.2.2.1 : Value).ownBlock) s_.2.2.2.2.2.1 t278) ∧ (w'.heap[gb256]? = some (.cells #[.slice A0_0 l0_0.length c0_0, .slice A0_1 l0_1.length c0_1, .slice A0_2 l0_2.length c0_2, .int .i64 a0_3, .int .i64 a0_4] 47 (0, 0))) ∧ (w'.heap[gb257]? = some (.cells #[.int .i64 a1_0, .int .i64 a1_1] 48 (0, 0))) ∧ (w'.heap[s_.2.2.2.2.2.2]? = some (.cells #[.slice none 0 0, .slice none 0 0, .slice none 0 0, .int .i64 0, .int .i64 0] 34 (0, 0))) ∧ (w.heap.size ≤ s_.2.2.2.2.2.2) ∧ (w.heap.size ≤ s_.2.2.2.2.2.2) ∧ (gb256 ≠ s_.2.2.2.2.2.2) ∧ (s_.2.2.2.2.2.2 ≠ gb256) ∧ (gb257 ≠ s_.2.2.2.2.2.2) ∧ (s_.2.2.2.2.2.2 ≠ gb257) ∧ (Below w.heap.size w w')) ?_ ?_
   rotate_left
   ·
    intro hCont
    refine two_ (i := 1) (j := 6) (Ni := some 21) (Nj := some 8) #[true, true, true, false, true, false, false, false] #[true, false, true, false, true, false, true, false] rfl rfl rfl rfl (two_of HT_.out (by kernel_rfl)) (by decide) (by decide) (fun K hK => ?_) (fun K hK => ?_)
    ·
     skip
     refine goes_ Try.func25 (by kernel_rfl) rfl #[.agg #[.slice A0_0 l0_0.length c0_0, .slice A0_1 l0_1.length c0_1, .slice A0_2 l0_2.length c0_2, .int .i64 a0_3, .int .i64 a0_4]] (by rfl) rfl rfl (by (try simp only [lm]); first | done | rfl | (simp only [List.length_drop, List.length_take]; rfl)) ?_
     with_reducible refine (laws_toMemory.calls kj4 _ _ l0_0 _ _ l0_1 _ _ l0_2 a0_3 a0_4 t259 t262 t265 t268 t269 _ ?side1 ?side2 ?side3 ?side4 ?side5 ?side6 A12.out).mono ?_
     (case side1 => exact Kd.C_below HR0_0.out (be w))
     (case side2 => exact HC0_0.out)
     (case side3 => exact Kd.C_below HR0_1.out (be w))
     (case side4 => exact HC0_1.out)
     (case side5 => exact Kd.C_below HR0_2.out (be w))
     (case side6 => exact HC0_2.out)
     rintro e w21 ⟨v260, v263, v266, rfl, ho0, ho1, ho2, hb⟩
     refine ⟨_, rfl, ?_⟩
     have HO261 := As.mk (Kd.R_lower ho0 (below_size (be w)))
     have HO264 := As.mk (Kd.R_lower ho1 (below_size (be w)))
     have HO267 := As.mk (Kd.R_lower ho2 (below_size (be w)))
     replace BK256 := As.mk (blk_below (bx BK256.out) hb)
     replace BK257 := As.mk (blk_below (bx BK257.out) hb)
     replace HB := As.mk (below_step (be w) hb)
     (try clear hb)
     (try clear hb2)
     (try clear hk)
     (try clear hi)
     (try clear ho0)
     (try clear ho1)
     (try clear ho2)
     refine hK.out _ _ ⟨(blk_cell BK256.out 0).trans rfl, (blk_cell BK256.out 1).trans rfl, (blk_cell BK256.out 2).trans rfl, (blk_cell BK256.out 3).trans rfl, (blk_cell BK256.out 4).trans rfl, (blk_cell BK257.out 0).trans rfl, (blk_cell BK257.out 1).trans rfl⟩ (fun hHeld => ?_)
     clear hK K
     refine norm_ (a' := ?_) ?_ ?_
     rotate_left
     ·
      show Act.put _ (some 21) _ = _
      simp only [pk, i64_w, i32_w]
      rfl
     refine two_ (i := 3) (j := 6) (Ni := some 23) (Nj := some 8) #[true, true, true, true, true, false, false, false] #[true, true, true, false, true, false, true, false] rfl rfl rfl rfl (two_of HT_.out (by kernel_rfl)) (by decide) (by decide) (fun K hK => ?_) (fun K hK => ?_)
     ·
      skip
      refine goes_ Try.func26 (by kernel_rfl) rfl #[.agg #[.int .i64 a1_0, .int .i64 a1_1]] (by rfl) rfl rfl (by (try simp only [lm]); first | done | rfl | (simp only [List.length_drop, List.length_take]; rfl)) ?_
      with_reducible refine (laws_toValue.calls a1_0 a1_1 t270 t271 _ A13.out).mono ?_
      rintro e w22 ⟨rfl, hb⟩
      refine ⟨_, rfl, ?_⟩
      replace HO261 := As.mk (Kd.R_below (by (with_reducible repeat (first | apply Kd.R_alloc | apply Kd.R_drewN | apply Kd.R_drew)); exact HO261.out) hb)
      replace HO264 := As.mk (Kd.R_below (by (with_reducible repeat (first | apply Kd.R_alloc | apply Kd.R_drewN | apply Kd.R_drew)); exact HO264.out) hb)
      replace HO267 := As.mk (Kd.R_below (by (with_reducible repeat (first | apply Kd.R_alloc | apply Kd.R_drewN | apply Kd.R_drew)); exact HO267.out) hb)
      replace BK256 := As.mk (blk_below (bx BK256.out) hb)
      replace BK257 := As.mk (blk_below (bx BK257.out) hb)
      replace HB := As.mk (below_step (be w) hb)
      (try clear hb)
      (try clear hb2)
      (try clear hk)
      (try clear hi)
      obtain ⟨Ao23, co23, eo23⟩ := Kd.R_slice HO261.out
      (first | subst eo23 | (injection eo23 with f1_ f2_ f3_; have f4_ := f1_.symm; have f5_ := f3_.symm; clear f1_ f2_ f3_; subst f4_; subst f5_))
      obtain ⟨Ao24, co24, eo24⟩ := Kd.R_slice HO264.out
      (first | subst eo24 | (injection eo24 with f1_ f2_ f3_; have f4_ := f1_.symm; have f5_ := f3_.symm; clear f1_ f2_ f3_; subst f4_; subst f5_))
      obtain ⟨Ao25, co25, eo25⟩ := Kd.R_slice HO267.out
      (first | subst eo25 | (injection eo25 with f1_ f2_ f3_; have f4_ := f1_.symm; have f5_ := f3_.symm; clear f1_ f2_ f3_; subst f4_; subst f5_))
      refine hK.out _ _ ⟨(blk_cell BK256.out 0).trans rfl, (blk_cell BK256.out 1).trans rfl, (blk_cell BK256.out 2).trans rfl, (blk_cell BK256.out 3).trans rfl, (blk_cell BK256.out 4).trans rfl, (blk_cell BK257.out 0).trans rfl, (blk_cell BK257.out 1).trans rfl⟩ (fun hHeld => ?_)
      clear hK K
      refine norm_ (a' := ?_) ?_ ?_
      rotate_left
      ·
       show Act.put _ (some 23) _ = _
       simp only [pk, i64_w, i32_w]
       rfl
      refine two_ (i := 5) (j := 6) (Ni := some 25) (Nj := some 8) #[true, true, true, true, true, true, false, false] #[true, true, true, true, true, false, true, false] rfl rfl rfl rfl (two_of HT_.out (by kernel_rfl)) (by decide) (by decide) (fun K hK => ?_) (fun K hK => ?_)
      ·
       skip
       refine goes_ Try.func32 (by kernel_rfl) rfl #[.agg #[.slice Ao23 t259.length co23, .slice Ao24 t262.length co24, .slice Ao25 t265.length co25, .int .i64 t268, .int .i64 t269], .agg #[.int .i64 t270, .int .i64 t271], .int .i64 a2] (by rfl) rfl rfl (by (try simp only [lm]); first | done | rfl | (simp only [List.length_drop, List.length_take]; rfl)) ?_
       with_reducible refine (spec_Written.calls _ _ t259 _ _ t262 _ _ t265 t268 t269 t270 t271 a2 t272 t275 t278 t281 t282 _ ?side1 ?side2 ?side3 ?side4 ?side5 ?side6 A14.out).mono ?_
       (case side1 => repeat (first | exact (Kd.R_reads' HO261.out).2.2 | (with_reducible refine Kd.C_alloc ?_ _) | (with_reducible refine Kd.C_drewN ?_ _) | (with_reducible refine Kd.C_drew ?_)))
       (case side2 => exact (Kd.R_reads' HO261.out).2.1)
       (case side3 => repeat (first | exact (Kd.R_reads' HO264.out).2.2 | (with_reducible refine Kd.C_alloc ?_ _) | (with_reducible refine Kd.C_drewN ?_ _) | (with_reducible refine Kd.C_drew ?_)))
       (case side4 => exact (Kd.R_reads' HO264.out).2.1)
       (case side5 => repeat (first | exact (Kd.R_reads' HO267.out).2.2 | (with_reducible refine Kd.C_alloc ?_ _) | (with_reducible refine Kd.C_drewN ?_ _) | (with_reducible refine Kd.C_drew ?_)))
       (case side6 => exact (Kd.R_reads' HO267.out).2.1)
       rintro e w26 ⟨v273, v276, v279, rfl, ho0, ho1, ho2, hb⟩
       refine ⟨_, rfl, ?_⟩
       have HO274 := As.mk (Kd.R_lower (Kd.R_new' ho0 (Kd.R_lt (by (with_reducible repeat (first | apply Kd.R_alloc | apply Kd.R_drewN | apply Kd.R_drew)); exact HO261.out))) (below_size (be w)))
       replace HO261 := As.mk (Kd.R_elder' (by (with_reducible repeat (first | apply Kd.R_alloc | apply Kd.R_drewN | apply Kd.R_drew)); exact HO261.out) (Kd.R_base ho0) hb)
       have HO277 := As.mk (Kd.R_lower (Kd.R_new' (Kd.R_new' ho1 (Kd.R_lt (by (with_reducible repeat (first | apply Kd.R_alloc | apply Kd.R_drewN | apply Kd.R_drew)); exact HO264.out))) (Kd.R_lt (by (with_reducible repeat (first | apply Kd.R_alloc | apply Kd.R_drewN | apply Kd.R_drew)); exact HO267.out))) (below_size (be w)))
       have HO280 := As.mk (Kd.R_lower (Kd.R_new' (Kd.R_new' ho2 (Kd.R_lt (by (with_reducible repeat (first | apply Kd.R_alloc | apply Kd.R_drewN | apply Kd.R_drew)); exact HO264.out))) (Kd.R_lt (by (with_reducible repeat (first | apply Kd.R_alloc | apply Kd.R_drewN | apply Kd.R_drew)); exact HO267.out))) (below_size (be w)))
       replace HO264 := As.mk (Kd.R_mono (Kd.R_told (Kd.R_told (Kd.R_old (by (with_reducible repeat (first | apply Kd.R_alloc | apply Kd.R_drewN | apply Kd.R_drew)); exact HO264.out) hb) (Kd.R_base ho1)) (Kd.R_base ho2)) (fun _ h_ => h_.1))
       replace HO267 := As.mk (Kd.R_mono (Kd.R_told (Kd.R_told (Kd.R_old (by (with_reducible repeat (first | apply Kd.R_alloc | apply Kd.R_drewN | apply Kd.R_drew)); exact HO267.out) hb) (Kd.R_base ho1)) (Kd.R_base ho2)) (fun _ h_ => h_.1))
       replace BK256 := As.mk (blk_below (bx BK256.out) hb)
       replace BK257 := As.mk (blk_below (bx BK257.out) hb)
       replace HB := As.mk (below_step (be w) hb)
       (try clear hb)
       (try clear hb2)
       (try clear hk)
       (try clear hi)
       (try clear ho0)
       (try clear ho1)
       (try clear ho2)
       refine hK.out _ _ ⟨(blk_cell BK256.out 0).trans rfl, (blk_cell BK256.out 1).trans rfl, (blk_cell BK256.out 2).trans rfl, (blk_cell BK256.out 3).trans rfl, (blk_cell BK256.out 4).trans rfl, (blk_cell BK257.out 0).trans rfl, (blk_cell BK257.out 1).trans rfl⟩ (fun hHeld => ?_)
       clear hK K
       refine norm_ (a' := ?_) ?_ ?_
       rotate_left
       ·
        show Act.put _ (some 25) _ = _
        simp only [pk, i64_w, i32_w]
        rfl
       refine one_ (i := 6) (N := some 8) #[I, I, I, I, I, I, I, O] rfl rfl (one_of HT_.out (by kernel_rfl)) (by decide) (fun K hK => ?_)
       refine box_step ?hg (N := 8) ?hd (cs := #[.slice none 0 0, .slice none 0 0, .slice none 0 0, .int .i64 0, .int .i64 0]) (t := 34) ?hr ?_; (case hd => rfl); (case hg => rfl); (case hr => first | (go_simp; done) | (go_simp; rfl))
       intro gb283 hg w27 hbox hb
       replace HO261 := As.mk (Kd.R_below (by (with_reducible repeat (first | apply Kd.R_alloc | apply Kd.R_drewN | apply Kd.R_drew)); exact HO261.out) hb)
       replace HO264 := As.mk (Kd.R_below (by (with_reducible repeat (first | apply Kd.R_alloc | apply Kd.R_drewN | apply Kd.R_drew)); exact HO264.out) hb)
       replace HO267 := As.mk (Kd.R_below (by (with_reducible repeat (first | apply Kd.R_alloc | apply Kd.R_drewN | apply Kd.R_drew)); exact HO267.out) hb)
       replace HO274 := As.mk (Kd.R_below (by (with_reducible repeat (first | apply Kd.R_alloc | apply Kd.R_drewN | apply Kd.R_drew)); exact HO274.out) hb)
       replace HO277 := As.mk (Kd.R_below (by (with_reducible repeat (first | apply Kd.R_alloc | apply Kd.R_drewN | apply Kd.R_drew)); exact HO277.out) hb)
       replace HO280 := As.mk (Kd.R_below (by (with_reducible repeat (first | apply Kd.R_alloc | apply Kd.R_drewN | apply Kd.R_drew)); exact HO280.out) hb)
       have BK283 := As.mk (hbox)
       have GW283 := As.mk (gs w hg)
       have GE283 := As.mk (gs w hg)
       replace HB := As.mk (below_step (be w) hb)
       have NB256_283 := As.mk (nl hg (bx BK256.out))
       have NB283_256 := As.mk (ng hg (bx BK256.out))
       replace BK256 := As.mk (blk_below (bx BK256.out) hb)
       have NB257_283 := As.mk (nl hg (bx BK257.out))
       have NB283_257 := As.mk (ng hg (bx BK257.out))
       replace BK257 := As.mk (blk_below (bx BK257.out) hb)
       clear hb hbox hg
       refine hK.out _ _ ⟨(blk_cell BK256.out 0).trans rfl, (blk_cell BK256.out 1).trans rfl, (blk_cell BK256.out 2).trans rfl, (blk_cell BK256.out 3).trans rfl, (blk_cell BK256.out 4).trans rfl, (blk_cell BK257.out 0).trans rfl, (blk_cell BK257.out 1).trans rfl⟩ (fun hHeld => ?_)
       clear hK K
       refine norm_ (a' := ?_) ?_ ?_
       rotate_left
       ·
        show Act.put _ (some 8) _ = _
        simp only [pk, i64_w, i32_w]
        rfl
       exact norm_ (by simp only [putAll, Act.put, List.setIfInBounds_toArray, List.set_cons_zero, List.set_cons_succ]) (hCont (.slice Ao23 t259.length co23, .slice Ao24 t262.length co24, .slice Ao25 t265.length co25, v273, v276, v279, gb283) _ ⟨hHeld, (by (with_reducible repeat (first | apply Kd.R_alloc | apply Kd.R_drewN | apply Kd.R_drew)); exact Kd.R_mono HO261.out (fun _ hk => hk.2)), (by (with_reducible repeat (first | apply Kd.R_alloc | apply Kd.R_drewN | apply Kd.R_drew)); exact Kd.R_mono HO264.out (fun _ hk => ⟨hk.1.1, ⟨hk.1.2, hk.2⟩⟩)), (by (with_reducible repeat (first | apply Kd.R_alloc | apply Kd.R_drewN | apply Kd.R_drew)); exact Kd.R_mono HO267.out (fun _ hk => ⟨hk.1.1, ⟨hk.1.2, hk.2⟩⟩)), (by (with_reducible repeat (first | apply Kd.R_alloc | apply Kd.R_drewN | apply Kd.R_drew)); exact Kd.R_mono HO274.out (fun _ hk => hk.2)), (by (with_reducible repeat (first | apply Kd.R_alloc | apply Kd.R_drewN | apply Kd.R_drew)); exact Kd.R_mono HO277.out (fun _ hk => ⟨hk.1.2, ⟨hk.2, hk.1.1⟩⟩)), (by (with_reducible repeat (first | apply Kd.R_alloc | apply Kd.R_drewN | apply Kd.R_drew)); exact Kd.R_mono HO280.out (fun _ hk => ⟨hk.1.2, ⟨hk.2, hk.1.1⟩⟩)), (bx BK256.out), (bx BK257.out), (bx BK283.out), GW283.out, GE283.out, NB256_283.out, NB283_256.out, NB257_283.out, NB283_257.out, (be w)⟩)
      ·
       skip
       refine box_step ?hg (N := 8) ?hd (cs := #[.slice none 0 0, .slice none 0 0, .slice none 0 0, .int .i64 0, .int .i64 0]) (t := 34) ?hr ?_; (case hd => rfl); (case hg => rfl); (case hr => first | (go_simp; done) | (go_simp; rfl))
       intro gb283 hg w23 hbox hb
       replace HO261 := As.mk (Kd.R_below (by (with_reducible repeat (first | apply Kd.R_alloc | apply Kd.R_drewN | apply Kd.R_drew)); exact HO261.out) hb)
       replace HO264 := As.mk (Kd.R_below (by (with_reducible repeat (first | apply Kd.R_alloc | apply Kd.R_drewN | apply Kd.R_drew)); exact HO264.out) hb)
       replace HO267 := As.mk (Kd.R_below (by (with_reducible repeat (first | apply Kd.R_alloc | apply Kd.R_drewN | apply Kd.R_drew)); exact HO267.out) hb)
       have BK283 := As.mk (hbox)
       have GW283 := As.mk (gs w hg)
       have GE283 := As.mk (gs w hg)
       replace HB := As.mk (below_step (be w) hb)
       have NB256_283 := As.mk (nl hg (bx BK256.out))
       have NB283_256 := As.mk (ng hg (bx BK256.out))
       replace BK256 := As.mk (blk_below (bx BK256.out) hb)
       have NB257_283 := As.mk (nl hg (bx BK257.out))
       have NB283_257 := As.mk (ng hg (bx BK257.out))
       replace BK257 := As.mk (blk_below (bx BK257.out) hb)
       clear hb hbox hg
       obtain ⟨Ao24, co24, eo24⟩ := Kd.R_slice HO261.out
       (first | subst eo24 | (injection eo24 with f1_ f2_ f3_; have f4_ := f1_.symm; have f5_ := f3_.symm; clear f1_ f2_ f3_; subst f4_; subst f5_))
       obtain ⟨Ao25, co25, eo25⟩ := Kd.R_slice HO264.out
       (first | subst eo25 | (injection eo25 with f1_ f2_ f3_; have f4_ := f1_.symm; have f5_ := f3_.symm; clear f1_ f2_ f3_; subst f4_; subst f5_))
       obtain ⟨Ao26, co26, eo26⟩ := Kd.R_slice HO267.out
       (first | subst eo26 | (injection eo26 with f1_ f2_ f3_; have f4_ := f1_.symm; have f5_ := f3_.symm; clear f1_ f2_ f3_; subst f4_; subst f5_))
       refine hK.out _ _ ⟨(blk_cell BK256.out 0).trans rfl, (blk_cell BK256.out 1).trans rfl, (blk_cell BK256.out 2).trans rfl, (blk_cell BK256.out 3).trans rfl, (blk_cell BK256.out 4).trans rfl, (blk_cell BK257.out 0).trans rfl, (blk_cell BK257.out 1).trans rfl⟩ (fun hHeld => ?_)
       clear hK K
       refine norm_ (a' := ?_) ?_ ?_
       rotate_left
       ·
        show Act.put _ (some 8) _ = _
        simp only [pk, i64_w, i32_w]
        rfl
       refine one_ (i := 5) (N := some 25) #[I, I, I, I, I, I, I, O] rfl rfl (one_of HT_.out (by kernel_rfl)) (by decide) (fun K hK => ?_)
       refine goes_ Try.func32 (by kernel_rfl) rfl #[.agg #[.slice Ao24 t259.length co24, .slice Ao25 t262.length co25, .slice Ao26 t265.length co26, .int .i64 t268, .int .i64 t269], .agg #[.int .i64 t270, .int .i64 t271], .int .i64 a2] (by rfl) rfl rfl (by (try simp only [lm]); first | done | rfl | (simp only [List.length_drop, List.length_take]; rfl)) ?_
       with_reducible refine (spec_Written.calls _ _ t259 _ _ t262 _ _ t265 t268 t269 t270 t271 a2 t272 t275 t278 t281 t282 _ ?side1 ?side2 ?side3 ?side4 ?side5 ?side6 A14.out).mono ?_
       (case side1 => repeat (first | exact (Kd.R_reads' HO261.out).2.2 | (with_reducible refine Kd.C_alloc ?_ _) | (with_reducible refine Kd.C_drewN ?_ _) | (with_reducible refine Kd.C_drew ?_)))
       (case side2 => exact (Kd.R_reads' HO261.out).2.1)
       (case side3 => repeat (first | exact (Kd.R_reads' HO264.out).2.2 | (with_reducible refine Kd.C_alloc ?_ _) | (with_reducible refine Kd.C_drewN ?_ _) | (with_reducible refine Kd.C_drew ?_)))
       (case side4 => exact (Kd.R_reads' HO264.out).2.1)
       (case side5 => repeat (first | exact (Kd.R_reads' HO267.out).2.2 | (with_reducible refine Kd.C_alloc ?_ _) | (with_reducible refine Kd.C_drewN ?_ _) | (with_reducible refine Kd.C_drew ?_)))
       (case side6 => exact (Kd.R_reads' HO267.out).2.1)
       rintro e w27 ⟨v273, v276, v279, rfl, ho0, ho1, ho2, hb⟩
       refine ⟨_, rfl, ?_⟩
       have HO274 := As.mk (Kd.R_lower (Kd.R_new' ho0 (Kd.R_lt (by (with_reducible repeat (first | apply Kd.R_alloc | apply Kd.R_drewN | apply Kd.R_drew)); exact HO261.out))) (below_size (be w)))
       replace HO261 := As.mk (Kd.R_elder' (by (with_reducible repeat (first | apply Kd.R_alloc | apply Kd.R_drewN | apply Kd.R_drew)); exact HO261.out) (Kd.R_base ho0) hb)
       have HO277 := As.mk (Kd.R_lower (Kd.R_new' (Kd.R_new' ho1 (Kd.R_lt (by (with_reducible repeat (first | apply Kd.R_alloc | apply Kd.R_drewN | apply Kd.R_drew)); exact HO264.out))) (Kd.R_lt (by (with_reducible repeat (first | apply Kd.R_alloc | apply Kd.R_drewN | apply Kd.R_drew)); exact HO267.out))) (below_size (be w)))
       have HO280 := As.mk (Kd.R_lower (Kd.R_new' (Kd.R_new' ho2 (Kd.R_lt (by (with_reducible repeat (first | apply Kd.R_alloc | apply Kd.R_drewN | apply Kd.R_drew)); exact HO264.out))) (Kd.R_lt (by (with_reducible repeat (first | apply Kd.R_alloc | apply Kd.R_drewN | apply Kd.R_drew)); exact HO267.out))) (below_size (be w)))
       replace HO264 := As.mk (Kd.R_mono (Kd.R_told (Kd.R_told (Kd.R_old (by (with_reducible repeat (first | apply Kd.R_alloc | apply Kd.R_drewN | apply Kd.R_drew)); exact HO264.out) hb) (Kd.R_base ho1)) (Kd.R_base ho2)) (fun _ h_ => h_.1))
       replace HO267 := As.mk (Kd.R_mono (Kd.R_told (Kd.R_told (Kd.R_old (by (with_reducible repeat (first | apply Kd.R_alloc | apply Kd.R_drewN | apply Kd.R_drew)); exact HO267.out) hb) (Kd.R_base ho1)) (Kd.R_base ho2)) (fun _ h_ => h_.1))
       replace BK256 := As.mk (blk_below (bx BK256.out) hb)
       replace BK257 := As.mk (blk_below (bx BK257.out) hb)
       replace BK283 := As.mk (blk_below (bx BK283.out) hb)
       replace HB := As.mk (below_step (be w) hb)
       (try clear hb)
       (try clear hb2)
       (try clear hk)
       (try clear hi)
       (try clear ho0)
       (try clear ho1)
       (try clear ho2)
       refine hK.out _ _ ⟨(blk_cell BK256.out 0).trans rfl, (blk_cell BK256.out 1).trans rfl, (blk_cell BK256.out 2).trans rfl, (blk_cell BK256.out 3).trans rfl, (blk_cell BK256.out 4).trans rfl, (blk_cell BK257.out 0).trans rfl, (blk_cell BK257.out 1).trans rfl⟩ (fun hHeld => ?_)
       clear hK K
       refine norm_ (a' := ?_) ?_ ?_
       rotate_left
       ·
        show Act.put _ (some 25) _ = _
        simp only [pk, i64_w, i32_w]
        rfl
       exact norm_ (by simp only [putAll, Act.put, List.setIfInBounds_toArray, List.set_cons_zero, List.set_cons_succ]) (hCont (.slice Ao24 t259.length co24, .slice Ao25 t262.length co25, .slice Ao26 t265.length co26, v273, v276, v279, gb283) _ ⟨hHeld, (by (with_reducible repeat (first | apply Kd.R_alloc | apply Kd.R_drewN | apply Kd.R_drew)); exact Kd.R_mono HO261.out (fun _ hk => hk.2)), (by (with_reducible repeat (first | apply Kd.R_alloc | apply Kd.R_drewN | apply Kd.R_drew)); exact Kd.R_mono HO264.out (fun _ hk => ⟨hk.1.1, ⟨hk.1.2, hk.2⟩⟩)), (by (with_reducible repeat (first | apply Kd.R_alloc | apply Kd.R_drewN | apply Kd.R_drew)); exact Kd.R_mono HO267.out (fun _ hk => ⟨hk.1.1, ⟨hk.1.2, hk.2⟩⟩)), (by (with_reducible repeat (first | apply Kd.R_alloc | apply Kd.R_drewN | apply Kd.R_drew)); exact Kd.R_mono HO274.out (fun _ hk => hk.2)), (by (with_reducible repeat (first | apply Kd.R_alloc | apply Kd.R_drewN | apply Kd.R_drew)); exact Kd.R_mono HO277.out (fun _ hk => ⟨hk.1.2, ⟨hk.2, hk.1.1⟩⟩)), (by (with_reducible repeat (first | apply Kd.R_alloc | apply Kd.R_drewN | apply Kd.R_drew)); exact Kd.R_mono HO280.out (fun _ hk => ⟨hk.1.2, ⟨hk.2, hk.1.1⟩⟩)), (bx BK256.out), (bx BK257.out), (bx BK283.out), GW283.out, GE283.out, NB256_283.out, NB283_256.out, NB257_283.out, NB283_257.out, (be w)⟩)
     ·
      skip
      refine box_step ?hg (N := 8) ?hd (cs := #[.slice none 0 0, .slice none 0 0, .slice none 0 0, .int .i64 0, .int .i64 0]) (t := 34) ?hr ?_; (case hd => rfl); (case hg => rfl); (case hr => first | (go_simp; done) | (go_simp; rfl))
      intro gb283 hg w22 hbox hb
      replace HO261 := As.mk (Kd.R_below (by (with_reducible repeat (first | apply Kd.R_alloc | apply Kd.R_drewN | apply Kd.R_drew)); exact HO261.out) hb)
      replace HO264 := As.mk (Kd.R_below (by (with_reducible repeat (first | apply Kd.R_alloc | apply Kd.R_drewN | apply Kd.R_drew)); exact HO264.out) hb)
      replace HO267 := As.mk (Kd.R_below (by (with_reducible repeat (first | apply Kd.R_alloc | apply Kd.R_drewN | apply Kd.R_drew)); exact HO267.out) hb)
      have BK283 := As.mk (hbox)
      have GW283 := As.mk (gs w hg)
      have GE283 := As.mk (gs w hg)
      replace HB := As.mk (below_step (be w) hb)
      have NB256_283 := As.mk (nl hg (bx BK256.out))
      have NB283_256 := As.mk (ng hg (bx BK256.out))
      replace BK256 := As.mk (blk_below (bx BK256.out) hb)
      have NB257_283 := As.mk (nl hg (bx BK257.out))
      have NB283_257 := As.mk (ng hg (bx BK257.out))
      replace BK257 := As.mk (blk_below (bx BK257.out) hb)
      clear hb hbox hg
      refine hK.out _ _ ⟨(blk_cell BK256.out 0).trans rfl, (blk_cell BK256.out 1).trans rfl, (blk_cell BK256.out 2).trans rfl, (blk_cell BK256.out 3).trans rfl, (blk_cell BK256.out 4).trans rfl, (blk_cell BK257.out 0).trans rfl, (blk_cell BK257.out 1).trans rfl⟩ (fun hHeld => ?_)
      clear hK K
      refine norm_ (a' := ?_) ?_ ?_
      rotate_left
      ·
       show Act.put _ (some 8) _ = _
       simp only [pk, i64_w, i32_w]
       rfl
      refine one_ (i := 3) (N := some 23) #[I, I, I, I, I, O, I, O] rfl rfl (one_of HT_.out (by kernel_rfl)) (by decide) (fun K hK => ?_)
      refine goes_ Try.func26 (by kernel_rfl) rfl #[.agg #[.int .i64 a1_0, .int .i64 a1_1]] (by rfl) rfl rfl (by (try simp only [lm]); first | done | rfl | (simp only [List.length_drop, List.length_take]; rfl)) ?_
      with_reducible refine (laws_toValue.calls a1_0 a1_1 t270 t271 _ A13.out).mono ?_
      rintro e w23 ⟨rfl, hb⟩
      refine ⟨_, rfl, ?_⟩
      replace HO261 := As.mk (Kd.R_below (by (with_reducible repeat (first | apply Kd.R_alloc | apply Kd.R_drewN | apply Kd.R_drew)); exact HO261.out) hb)
      replace HO264 := As.mk (Kd.R_below (by (with_reducible repeat (first | apply Kd.R_alloc | apply Kd.R_drewN | apply Kd.R_drew)); exact HO264.out) hb)
      replace HO267 := As.mk (Kd.R_below (by (with_reducible repeat (first | apply Kd.R_alloc | apply Kd.R_drewN | apply Kd.R_drew)); exact HO267.out) hb)
      replace BK256 := As.mk (blk_below (bx BK256.out) hb)
      replace BK257 := As.mk (blk_below (bx BK257.out) hb)
      replace BK283 := As.mk (blk_below (bx BK283.out) hb)
      replace HB := As.mk (below_step (be w) hb)
      (try clear hb)
      (try clear hb2)
      (try clear hk)
      (try clear hi)
      obtain ⟨Ao24, co24, eo24⟩ := Kd.R_slice HO261.out
      (first | subst eo24 | (injection eo24 with f1_ f2_ f3_; have f4_ := f1_.symm; have f5_ := f3_.symm; clear f1_ f2_ f3_; subst f4_; subst f5_))
      obtain ⟨Ao25, co25, eo25⟩ := Kd.R_slice HO264.out
      (first | subst eo25 | (injection eo25 with f1_ f2_ f3_; have f4_ := f1_.symm; have f5_ := f3_.symm; clear f1_ f2_ f3_; subst f4_; subst f5_))
      obtain ⟨Ao26, co26, eo26⟩ := Kd.R_slice HO267.out
      (first | subst eo26 | (injection eo26 with f1_ f2_ f3_; have f4_ := f1_.symm; have f5_ := f3_.symm; clear f1_ f2_ f3_; subst f4_; subst f5_))
      refine hK.out _ _ ⟨(blk_cell BK256.out 0).trans rfl, (blk_cell BK256.out 1).trans rfl, (blk_cell BK256.out 2).trans rfl, (blk_cell BK256.out 3).trans rfl, (blk_cell BK256.out 4).trans rfl, (blk_cell BK257.out 0).trans rfl, (blk_cell BK257.out 1).trans rfl⟩ (fun hHeld => ?_)
      clear hK K
      refine norm_ (a' := ?_) ?_ ?_
      rotate_left
      ·
       show Act.put _ (some 23) _ = _
       simp only [pk, i64_w, i32_w]
       rfl
      refine one_ (i := 5) (N := some 25) #[I, I, I, I, I, I, I, O] rfl rfl (one_of HT_.out (by kernel_rfl)) (by decide) (fun K hK => ?_)
      refine goes_ Try.func32 (by kernel_rfl) rfl #[.agg #[.slice Ao24 t259.length co24, .slice Ao25 t262.length co25, .slice Ao26 t265.length co26, .int .i64 t268, .int .i64 t269], .agg #[.int .i64 t270, .int .i64 t271], .int .i64 a2] (by rfl) rfl rfl (by (try simp only [lm]); first | done | rfl | (simp only [List.length_drop, List.length_take]; rfl)) ?_
      with_reducible refine (spec_Written.calls _ _ t259 _ _ t262 _ _ t265 t268 t269 t270 t271 a2 t272 t275 t278 t281 t282 _ ?side1 ?side2 ?side3 ?side4 ?side5 ?side6 A14.out).mono ?_
      (case side1 => repeat (first | exact (Kd.R_reads' HO261.out).2.2 | (with_reducible refine Kd.C_alloc ?_ _) | (with_reducible refine Kd.C_drewN ?_ _) | (with_reducible refine Kd.C_drew ?_)))
      (case side2 => exact (Kd.R_reads' HO261.out).2.1)
      (case side3 => repeat (first | exact (Kd.R_reads' HO264.out).2.2 | (with_reducible refine Kd.C_alloc ?_ _) | (with_reducible refine Kd.C_drewN ?_ _) | (with_reducible refine Kd.C_drew ?_)))
      (case side4 => exact (Kd.R_reads' HO264.out).2.1)
      (case side5 => repeat (first | exact (Kd.R_reads' HO267.out).2.2 | (with_reducible refine Kd.C_alloc ?_ _) | (with_reducible refine Kd.C_drewN ?_ _) | (with_reducible refine Kd.C_drew ?_)))
      (case side6 => exact (Kd.R_reads' HO267.out).2.1)
      rintro e w27 ⟨v273, v276, v279, rfl, ho0, ho1, ho2, hb⟩
      refine ⟨_, rfl, ?_⟩
      have HO274 := As.mk (Kd.R_lower (Kd.R_new' ho0 (Kd.R_lt (by (with_reducible repeat (first | apply Kd.R_alloc | apply Kd.R_drewN | apply Kd.R_drew)); exact HO261.out))) (below_size (be w)))
      replace HO261 := As.mk (Kd.R_elder' (by (with_reducible repeat (first | apply Kd.R_alloc | apply Kd.R_drewN | apply Kd.R_drew)); exact HO261.out) (Kd.R_base ho0) hb)
      have HO277 := As.mk (Kd.R_lower (Kd.R_new' (Kd.R_new' ho1 (Kd.R_lt (by (with_reducible repeat (first | apply Kd.R_alloc | apply Kd.R_drewN | apply Kd.R_drew)); exact HO264.out))) (Kd.R_lt (by (with_reducible repeat (first | apply Kd.R_alloc | apply Kd.R_drewN | apply Kd.R_drew)); exact HO267.out))) (below_size (be w)))
      have HO280 := As.mk (Kd.R_lower (Kd.R_new' (Kd.R_new' ho2 (Kd.R_lt (by (with_reducible repeat (first | apply Kd.R_alloc | apply Kd.R_drewN | apply Kd.R_drew)); exact HO264.out))) (Kd.R_lt (by (with_reducible repeat (first | apply Kd.R_alloc | apply Kd.R_drewN | apply Kd.R_drew)); exact HO267.out))) (below_size (be w)))
      replace HO264 := As.mk (Kd.R_mono (Kd.R_told (Kd.R_told (Kd.R_old (by (with_reducible repeat (first | apply Kd.R_alloc | apply Kd.R_drewN | apply Kd.R_drew)); exact HO264.out) hb) (Kd.R_base ho1)) (Kd.R_base ho2)) (fun _ h_ => h_.1))
      replace HO267 := As.mk (Kd.R_mono (Kd.R_told (Kd.R_told (Kd.R_old (by (with_reducible repeat (first | apply Kd.R_alloc | apply Kd.R_drewN | apply Kd.R_drew)); exact HO267.out) hb) (Kd.R_base ho1)) (Kd.R_base ho2)) (fun _ h_ => h_.1))
      replace BK256 := As.mk (blk_below (bx BK256.out) hb)
      replace BK257 := As.mk (blk_below (bx BK257.out) hb)
      replace BK283 := As.mk (blk_below (bx BK283.out) hb)
      replace HB := As.mk (below_step (be w) hb)
      (try clear hb)
      (try clear hb2)
      (try clear hk)
      (try clear hi)
      (try clear ho0)
      (try clear ho1)
      (try clear ho2)
      refine hK.out _ _ ⟨(blk_cell BK256.out 0).trans rfl, (blk_cell BK256.out 1).trans rfl, (blk_cell BK256.out 2).trans rfl, (blk_cell BK256.out 3).trans rfl, (blk_cell BK256.out 4).trans rfl, (blk_cell BK257.out 0).trans rfl, (blk_cell BK257.out 1).trans rfl⟩ (fun hHeld => ?_)
      clear hK K
      refine norm_ (a' := ?_) ?_ ?_
      rotate_left
      ·
       show Act.put _ (some 25) _ = _
       simp only [pk, i64_w, i32_w]
       rfl
      exact norm_ (by simp only [putAll, Act.put, List.setIfInBounds_toArray, List.set_cons_zero, List.set_cons_succ]) (hCont (.slice Ao24 t259.length co24, .slice Ao25 t262.length co25, .slice Ao26 t265.length co26, v273, v276, v279, gb283) _ ⟨hHeld, (by (with_reducible repeat (first | apply Kd.R_alloc | apply Kd.R_drewN | apply Kd.R_drew)); exact Kd.R_mono HO261.out (fun _ hk => hk.2)), (by (with_reducible repeat (first | apply Kd.R_alloc | apply Kd.R_drewN | apply Kd.R_drew)); exact Kd.R_mono HO264.out (fun _ hk => ⟨hk.1.1, ⟨hk.1.2, hk.2⟩⟩)), (by (with_reducible repeat (first | apply Kd.R_alloc | apply Kd.R_drewN | apply Kd.R_drew)); exact Kd.R_mono HO267.out (fun _ hk => ⟨hk.1.1, ⟨hk.1.2, hk.2⟩⟩)), (by (with_reducible repeat (first | apply Kd.R_alloc | apply Kd.R_drewN | apply Kd.R_drew)); exact Kd.R_mono HO274.out (fun _ hk => hk.2)), (by (with_reducible repeat (first | apply Kd.R_alloc | apply Kd.R_drewN | apply Kd.R_drew)); exact Kd.R_mono HO277.out (fun _ hk => ⟨hk.1.2, ⟨hk.2, hk.1.1⟩⟩)), (by (with_reducible repeat (first | apply Kd.R_alloc | apply Kd.R_drewN | apply Kd.R_drew)); exact Kd.R_mono HO280.out (fun _ hk => ⟨hk.1.2, ⟨hk.2, hk.1.1⟩⟩)), (bx BK256.out), (bx BK257.out), (bx BK283.out), GW283.out, GE283.out, NB256_283.out, NB283_256.out, NB257_283.out, NB283_257.out, (be w)⟩)
    ·
     skip
     refine box_step ?hg (N := 8) ?hd (cs := #[.slice none 0 0, .slice none 0 0, .slice none 0 0, .int .i64 0, .int .i64 0]) (t := 34) ?hr ?_; (case hd => rfl); (case hg => rfl); (case hr => first | (go_simp; done) | (go_simp; rfl))
     intro gb283 hg w21 hbox hb
     have BK283 := As.mk (hbox)
     have GW283 := As.mk (gs w hg)
     have GE283 := As.mk (gs w hg)
     replace HB := As.mk (below_step (be w) hb)
     have NB256_283 := As.mk (nl hg (bx BK256.out))
     have NB283_256 := As.mk (ng hg (bx BK256.out))
     replace BK256 := As.mk (blk_below (bx BK256.out) hb)
     have NB257_283 := As.mk (nl hg (bx BK257.out))
     have NB283_257 := As.mk (ng hg (bx BK257.out))
     replace BK257 := As.mk (blk_below (bx BK257.out) hb)
     clear hb hbox hg
     refine hK.out _ _ ⟨(blk_cell BK256.out 0).trans rfl, (blk_cell BK256.out 1).trans rfl, (blk_cell BK256.out 2).trans rfl, (blk_cell BK256.out 3).trans rfl, (blk_cell BK256.out 4).trans rfl, (blk_cell BK257.out 0).trans rfl, (blk_cell BK257.out 1).trans rfl⟩ (fun hHeld => ?_)
     clear hK K
     refine norm_ (a' := ?_) ?_ ?_
     rotate_left
     ·
      show Act.put _ (some 8) _ = _
      simp only [pk, i64_w, i32_w]
      rfl
     refine one_ (i := 1) (N := some 21) #[I, I, I, O, I, O, I, O] rfl rfl (one_of HT_.out (by kernel_rfl)) (by decide) (fun K hK => ?_)
     refine goes_ Try.func25 (by kernel_rfl) rfl #[.agg #[.slice A0_0 l0_0.length c0_0, .slice A0_1 l0_1.length c0_1, .slice A0_2 l0_2.length c0_2, .int .i64 a0_3, .int .i64 a0_4]] (by rfl) rfl rfl (by (try simp only [lm]); first | done | rfl | (simp only [List.length_drop, List.length_take]; rfl)) ?_
     with_reducible refine (laws_toMemory.calls kj4 _ _ l0_0 _ _ l0_1 _ _ l0_2 a0_3 a0_4 t259 t262 t265 t268 t269 _ ?side1 ?side2 ?side3 ?side4 ?side5 ?side6 A12.out).mono ?_
     (case side1 => exact Kd.C_below HR0_0.out (be w))
     (case side2 => exact HC0_0.out)
     (case side3 => exact Kd.C_below HR0_1.out (be w))
     (case side4 => exact HC0_1.out)
     (case side5 => exact Kd.C_below HR0_2.out (be w))
     (case side6 => exact HC0_2.out)
     rintro e w22 ⟨v260, v263, v266, rfl, ho0, ho1, ho2, hb⟩
     refine ⟨_, rfl, ?_⟩
     have HO261 := As.mk (Kd.R_lower ho0 (below_size (be w)))
     have HO264 := As.mk (Kd.R_lower ho1 (below_size (be w)))
     have HO267 := As.mk (Kd.R_lower ho2 (below_size (be w)))
     replace BK256 := As.mk (blk_below (bx BK256.out) hb)
     replace BK257 := As.mk (blk_below (bx BK257.out) hb)
     replace BK283 := As.mk (blk_below (bx BK283.out) hb)
     replace HB := As.mk (below_step (be w) hb)
     (try clear hb)
     (try clear hb2)
     (try clear hk)
     (try clear hi)
     (try clear ho0)
     (try clear ho1)
     (try clear ho2)
     refine hK.out _ _ ⟨(blk_cell BK256.out 0).trans rfl, (blk_cell BK256.out 1).trans rfl, (blk_cell BK256.out 2).trans rfl, (blk_cell BK256.out 3).trans rfl, (blk_cell BK256.out 4).trans rfl, (blk_cell BK257.out 0).trans rfl, (blk_cell BK257.out 1).trans rfl⟩ (fun hHeld => ?_)
     clear hK K
     refine norm_ (a' := ?_) ?_ ?_
     rotate_left
     ·
      show Act.put _ (some 21) _ = _
      simp only [pk, i64_w, i32_w]
      rfl
     refine one_ (i := 3) (N := some 23) #[I, I, I, I, I, O, I, O] rfl rfl (one_of HT_.out (by kernel_rfl)) (by decide) (fun K hK => ?_)
     refine goes_ Try.func26 (by kernel_rfl) rfl #[.agg #[.int .i64 a1_0, .int .i64 a1_1]] (by rfl) rfl rfl (by (try simp only [lm]); first | done | rfl | (simp only [List.length_drop, List.length_take]; rfl)) ?_
     with_reducible refine (laws_toValue.calls a1_0 a1_1 t270 t271 _ A13.out).mono ?_
     rintro e w23 ⟨rfl, hb⟩
     refine ⟨_, rfl, ?_⟩
     replace HO261 := As.mk (Kd.R_below (by (with_reducible repeat (first | apply Kd.R_alloc | apply Kd.R_drewN | apply Kd.R_drew)); exact HO261.out) hb)
     replace HO264 := As.mk (Kd.R_below (by (with_reducible repeat (first | apply Kd.R_alloc | apply Kd.R_drewN | apply Kd.R_drew)); exact HO264.out) hb)
     replace HO267 := As.mk (Kd.R_below (by (with_reducible repeat (first | apply Kd.R_alloc | apply Kd.R_drewN | apply Kd.R_drew)); exact HO267.out) hb)
     replace BK256 := As.mk (blk_below (bx BK256.out) hb)
     replace BK257 := As.mk (blk_below (bx BK257.out) hb)
     replace BK283 := As.mk (blk_below (bx BK283.out) hb)
     replace HB := As.mk (below_step (be w) hb)
     (try clear hb)
     (try clear hb2)
     (try clear hk)
     (try clear hi)
     obtain ⟨Ao24, co24, eo24⟩ := Kd.R_slice HO261.out
     (first | subst eo24 | (injection eo24 with f1_ f2_ f3_; have f4_ := f1_.symm; have f5_ := f3_.symm; clear f1_ f2_ f3_; subst f4_; subst f5_))
     obtain ⟨Ao25, co25, eo25⟩ := Kd.R_slice HO264.out
     (first | subst eo25 | (injection eo25 with f1_ f2_ f3_; have f4_ := f1_.symm; have f5_ := f3_.symm; clear f1_ f2_ f3_; subst f4_; subst f5_))
     obtain ⟨Ao26, co26, eo26⟩ := Kd.R_slice HO267.out
     (first | subst eo26 | (injection eo26 with f1_ f2_ f3_; have f4_ := f1_.symm; have f5_ := f3_.symm; clear f1_ f2_ f3_; subst f4_; subst f5_))
     refine hK.out _ _ ⟨(blk_cell BK256.out 0).trans rfl, (blk_cell BK256.out 1).trans rfl, (blk_cell BK256.out 2).trans rfl, (blk_cell BK256.out 3).trans rfl, (blk_cell BK256.out 4).trans rfl, (blk_cell BK257.out 0).trans rfl, (blk_cell BK257.out 1).trans rfl⟩ (fun hHeld => ?_)
     clear hK K
     refine norm_ (a' := ?_) ?_ ?_
     rotate_left
     ·
      show Act.put _ (some 23) _ = _
      simp only [pk, i64_w, i32_w]
      rfl
     refine one_ (i := 5) (N := some 25) #[I, I, I, I, I, I, I, O] rfl rfl (one_of HT_.out (by kernel_rfl)) (by decide) (fun K hK => ?_)
     refine goes_ Try.func32 (by kernel_rfl) rfl #[.agg #[.slice Ao24 t259.length co24, .slice Ao25 t262.length co25, .slice Ao26 t265.length co26, .int .i64 t268, .int .i64 t269], .agg #[.int .i64 t270, .int .i64 t271], .int .i64 a2] (by rfl) rfl rfl (by (try simp only [lm]); first | done | rfl | (simp only [List.length_drop, List.length_take]; rfl)) ?_
     with_reducible refine (spec_Written.calls _ _ t259 _ _ t262 _ _ t265 t268 t269 t270 t271 a2 t272 t275 t278 t281 t282 _ ?side1 ?side2 ?side3 ?side4 ?side5 ?side6 A14.out).mono ?_
     (case side1 => repeat (first | exact (Kd.R_reads' HO261.out).2.2 | (with_reducible refine Kd.C_alloc ?_ _) | (with_reducible refine Kd.C_drewN ?_ _) | (with_reducible refine Kd.C_drew ?_)))
     (case side2 => exact (Kd.R_reads' HO261.out).2.1)
     (case side3 => repeat (first | exact (Kd.R_reads' HO264.out).2.2 | (with_reducible refine Kd.C_alloc ?_ _) | (with_reducible refine Kd.C_drewN ?_ _) | (with_reducible refine Kd.C_drew ?_)))
     (case side4 => exact (Kd.R_reads' HO264.out).2.1)
     (case side5 => repeat (first | exact (Kd.R_reads' HO267.out).2.2 | (with_reducible refine Kd.C_alloc ?_ _) | (with_reducible refine Kd.C_drewN ?_ _) | (with_reducible refine Kd.C_drew ?_)))
     (case side6 => exact (Kd.R_reads' HO267.out).2.1)
     rintro e w27 ⟨v273, v276, v279, rfl, ho0, ho1, ho2, hb⟩
     refine ⟨_, rfl, ?_⟩
     have HO274 := As.mk (Kd.R_lower (Kd.R_new' ho0 (Kd.R_lt (by (with_reducible repeat (first | apply Kd.R_alloc | apply Kd.R_drewN | apply Kd.R_drew)); exact HO261.out))) (below_size (be w)))
     replace HO261 := As.mk (Kd.R_elder' (by (with_reducible repeat (first | apply Kd.R_alloc | apply Kd.R_drewN | apply Kd.R_drew)); exact HO261.out) (Kd.R_base ho0) hb)
     have HO277 := As.mk (Kd.R_lower (Kd.R_new' (Kd.R_new' ho1 (Kd.R_lt (by (with_reducible repeat (first | apply Kd.R_alloc | apply Kd.R_drewN | apply Kd.R_drew)); exact HO264.out))) (Kd.R_lt (by (with_reducible repeat (first | apply Kd.R_alloc | apply Kd.R_drewN | apply Kd.R_drew)); exact HO267.out))) (below_size (be w)))
     have HO280 := As.mk (Kd.R_lower (Kd.R_new' (Kd.R_new' ho2 (Kd.R_lt (by (with_reducible repeat (first | apply Kd.R_alloc | apply Kd.R_drewN | apply Kd.R_drew)); exact HO264.out))) (Kd.R_lt (by (with_reducible repeat (first | apply Kd.R_alloc | apply Kd.R_drewN | apply Kd.R_drew)); exact HO267.out))) (below_size (be w)))
     replace HO264 := As.mk (Kd.R_mono (Kd.R_told (Kd.R_told (Kd.R_old (by (with_reducible repeat (first | apply Kd.R_alloc | apply Kd.R_drewN | apply Kd.R_drew)); exact HO264.out) hb) (Kd.R_base ho1)) (Kd.R_base ho2)) (fun _ h_ => h_.1))
     replace HO267 := As.mk (Kd.R_mono (Kd.R_told (Kd.R_told (Kd.R_old (by (with_reducible repeat (first | apply Kd.R_alloc | apply Kd.R_drewN | apply Kd.R_drew)); exact HO267.out) hb) (Kd.R_base ho1)) (Kd.R_base ho2)) (fun _ h_ => h_.1))
     replace BK256 := As.mk (blk_below (bx BK256.out) hb)
     replace BK257 := As.mk (blk_below (bx BK257.out) hb)
     replace BK283 := As.mk (blk_below (bx BK283.out) hb)
     replace HB := As.mk (below_step (be w) hb)
     (try clear hb)
     (try clear hb2)
     (try clear hk)
     (try clear hi)
     (try clear ho0)
     (try clear ho1)
     (try clear ho2)
     refine hK.out _ _ ⟨(blk_cell BK256.out 0).trans rfl, (blk_cell BK256.out 1).trans rfl, (blk_cell BK256.out 2).trans rfl, (blk_cell BK256.out 3).trans rfl, (blk_cell BK256.out 4).trans rfl, (blk_cell BK257.out 0).trans rfl, (blk_cell BK257.out 1).trans rfl⟩ (fun hHeld => ?_)
     clear hK K
     refine norm_ (a' := ?_) ?_ ?_
     rotate_left
     ·
      show Act.put _ (some 25) _ = _
      simp only [pk, i64_w, i32_w]
      rfl
     exact norm_ (by simp only [putAll, Act.put, List.setIfInBounds_toArray, List.set_cons_zero, List.set_cons_succ]) (hCont (.slice Ao24 t259.length co24, .slice Ao25 t262.length co25, .slice Ao26 t265.length co26, v273, v276, v279, gb283) _ ⟨hHeld, (by (with_reducible repeat (first | apply Kd.R_alloc | apply Kd.R_drewN | apply Kd.R_drew)); exact Kd.R_mono HO261.out (fun _ hk => hk.2)), (by (with_reducible repeat (first | apply Kd.R_alloc | apply Kd.R_drewN | apply Kd.R_drew)); exact Kd.R_mono HO264.out (fun _ hk => ⟨hk.1.1, ⟨hk.1.2, hk.2⟩⟩)), (by (with_reducible repeat (first | apply Kd.R_alloc | apply Kd.R_drewN | apply Kd.R_drew)); exact Kd.R_mono HO267.out (fun _ hk => ⟨hk.1.1, ⟨hk.1.2, hk.2⟩⟩)), (by (with_reducible repeat (first | apply Kd.R_alloc | apply Kd.R_drewN | apply Kd.R_drew)); exact Kd.R_mono HO274.out (fun _ hk => hk.2)), (by (with_reducible repeat (first | apply Kd.R_alloc | apply Kd.R_drewN | apply Kd.R_drew)); exact Kd.R_mono HO277.out (fun _ hk => ⟨hk.1.2, ⟨hk.2, hk.1.1⟩⟩)), (by (with_reducible repeat (first | apply Kd.R_alloc | apply Kd.R_drewN | apply Kd.R_drew)); exact Kd.R_mono HO280.out (fun _ hk => ⟨hk.1.2, ⟨hk.2, hk.1.1⟩⟩)), (bx BK256.out), (bx BK257.out), (bx BK283.out), GW283.out, GE283.out, NB256_283.out, NB283_256.out, NB257_283.out, NB283_257.out, (be w)⟩)
   rintro ⟨v260, v263, v266, v273, v276, v279, gb283⟩ w28 ⟨hS_, h0_, h1_, h2_, h3_, h4_, h5_, h6_, h7_, h8_, h9_, h10_, h11_, h12_, h13_, h14_, h15_⟩
   have n0_ : As (Kd.R k93 93 w28 w.heap.size (fun k_ => some k_ ≠ (v273 : Value).ownBlock) v260 t259) := ⟨h0_⟩
   have n1_ : As (Kd.R (Kd.int .i64) 3 w28 w.heap.size (fun k_ => some k_ ≠ (v266 : Value).ownBlock ∧ some k_ ≠ (v276 : Value).ownBlock ∧ some k_ ≠ (v279 : Value).ownBlock) v263 t262) := ⟨h1_⟩
   have n2_ : As (Kd.R (Kd.int .i64) 3 w28 w.heap.size (fun k_ => some k_ ≠ (v263 : Value).ownBlock ∧ some k_ ≠ (v276 : Value).ownBlock ∧ some k_ ≠ (v279 : Value).ownBlock) v266 t265) := ⟨h2_⟩
   have n3_ : As (Kd.R k93 93 w28 w.heap.size (fun k_ => some k_ ≠ (v260 : Value).ownBlock) v273 t272) := ⟨h3_⟩
   have n4_ : As (Kd.R (Kd.int .i64) 3 w28 w.heap.size (fun k_ => some k_ ≠ (v263 : Value).ownBlock ∧ some k_ ≠ (v266 : Value).ownBlock ∧ some k_ ≠ (v279 : Value).ownBlock) v276 t275) := ⟨h4_⟩
   have n5_ : As (Kd.R (Kd.int .i64) 3 w28 w.heap.size (fun k_ => some k_ ≠ (v263 : Value).ownBlock ∧ some k_ ≠ (v266 : Value).ownBlock ∧ some k_ ≠ (v276 : Value).ownBlock) v279 t278) := ⟨h5_⟩
   have n6_ : As (w28.heap[gb256]? = some (.cells #[.slice A0_0 l0_0.length c0_0, .slice A0_1 l0_1.length c0_1, .slice A0_2 l0_2.length c0_2, .int .i64 a0_3, .int .i64 a0_4] 47 (0, 0))) := ⟨h6_⟩
   have n7_ : As (w28.heap[gb257]? = some (.cells #[.int .i64 a1_0, .int .i64 a1_1] 48 (0, 0))) := ⟨h7_⟩
   have n8_ : As (w28.heap[gb283]? = some (.cells #[.slice none 0 0, .slice none 0 0, .slice none 0 0, .int .i64 0, .int .i64 0] 34 (0, 0))) := ⟨h8_⟩
   have n9_ : As (w.heap.size ≤ gb283) := ⟨h9_⟩
   have n10_ : As (w.heap.size ≤ gb283) := ⟨h10_⟩
   have n11_ : As (gb256 ≠ gb283) := ⟨h11_⟩
   have n12_ : As (gb283 ≠ gb256) := ⟨h12_⟩
   have n13_ : As (gb257 ≠ gb283) := ⟨h13_⟩
   have n14_ : As (gb283 ≠ gb257) := ⟨h14_⟩
   have n15_ : As (Below w.heap.size w w28) := ⟨h15_⟩
   clear BK256
   clear BK257
   clear HB
   clear h0_ h1_ h2_ h3_ h4_ h5_ h6_ h7_ h8_ h9_ h10_ h11_ h12_ h13_ h14_ h15_
   have HO261 := n0_
   have HO264 := n1_
   have HO267 := n2_
   have HO274 := n3_
   have HO277 := n4_
   have HO280 := n5_
   have BK256 := n6_
   have BK257 := n7_
   have BK283 := n8_
   have GW283 := n9_
   have GE283 := n10_
   have NB256_283 := n11_
   have NB283_256 := n12_
   have NB257_283 := n13_
   have NB283_257 := n14_
   have HB := n15_
   clear n0_ n1_ n2_ n3_ n4_ n5_ n6_ n7_ n8_ n9_ n10_ n11_ n12_ n13_ n14_ n15_
   have hHeld : w28.cell? ⟨gb256, 0, none⟩ = some (.slice A0_0 l0_0.length c0_0) ∧ w28.cell? ⟨gb256, 1, none⟩ = some (.slice A0_1 l0_1.length c0_1) ∧ w28.cell? ⟨gb256, 2, none⟩ = some (.slice A0_2 l0_2.length c0_2) ∧ w28.cell? ⟨gb256, 3, none⟩ = some (.int .i64 a0_3) ∧ w28.cell? ⟨gb256, 4, none⟩ = some (.int .i64 a0_4) ∧ w28.cell? ⟨gb257, 0, none⟩ = some (.int .i64 a1_0) ∧ w28.cell? ⟨gb257, 1, none⟩ = some (.int .i64 a1_1) := hS_
   obtain ⟨Ao29, co29, eo29⟩ := Kd.R_slice HO274.out
   (first | subst eo29 | (injection eo29 with f1_ f2_ f3_; have f4_ := f1_.symm; have f5_ := f3_.symm; clear f1_ f2_ f3_; subst f4_; subst f5_))
   obtain ⟨Ao31, co31, eo31⟩ := Kd.R_slice HO277.out
   (first | subst eo31 | (injection eo31 with f1_ f2_ f3_; have f4_ := f1_.symm; have f5_ := f3_.symm; clear f1_ f2_ f3_; subst f4_; subst f5_))
   obtain ⟨Ao33, co33, eo33⟩ := Kd.R_slice HO280.out
   (first | subst eo33 | (injection eo33 with f1_ f2_ f3_; have f4_ := f1_.symm; have f5_ := f3_.symm; clear f1_ f2_ f3_; subst f4_; subst f5_))
   refine norm_ (a' := ?_) ?_ ?_
   rotate_left
   ·
    simp only [putAll, Act.put, List.setIfInBounds_toArray, List.set_cons_zero, List.set_cons_succ]
    rfl
   refine one_ (i := 7) (N := none) #[I, I, I, I, I, I, I, I] rfl rfl (one_of HT_.out (by kernel_rfl)) (by decide) (fun K hK => ?_)
   have hs30 : w28.cell? ⟨gb283, 0, none⟩ = some (.slice none 0 0) := (blk_cell BK283.out 0).trans rfl
   have hfs30 := blk_frozen BK283.out 0
   have hns30_0 := NB256_283.out
   have hns30_1 := NB257_283.out
   have hms30_0 := NB283_256.out
   have hms30_1 := NB283_257.out
   have hs32 : w28.cell? ⟨gb283, 1, none⟩ = some (.slice none 0 0) := (blk_cell BK283.out 1).trans rfl
   have hfs32 := blk_frozen BK283.out 1
   have hns32_0 := NB256_283.out
   have hns32_1 := NB257_283.out
   have hms32_0 := NB283_256.out
   have hms32_1 := NB283_257.out
   have hs34 : w28.cell? ⟨gb283, 2, none⟩ = some (.slice none 0 0) := (blk_cell BK283.out 2).trans rfl
   have hfs34 := blk_frozen BK283.out 2
   have hns34_0 := NB256_283.out
   have hns34_1 := NB257_283.out
   have hms34_0 := NB283_256.out
   have hms34_1 := NB283_257.out
   have hs35 : w28.cell? ⟨gb283, 3, none⟩ = some (.int .i64 0) := (blk_cell BK283.out 3).trans rfl
   have hfs35 := blk_frozen BK283.out 3
   have hns35_0 := NB256_283.out
   have hns35_1 := NB257_283.out
   have hms35_0 := NB283_256.out
   have hms35_1 := NB283_257.out
   have hs36 : w28.cell? ⟨gb283, 4, none⟩ = some (.int .i64 0) := (blk_cell BK283.out 4).trans rfl
   have hfs36 := blk_frozen BK283.out 4
   have hns36_0 := NB256_283.out
   have hns36_1 := NB257_283.out
   have hms36_0 := NB283_256.out
   have hms36_1 := NB283_257.out
   refine skip_ (w1 := ?_) (by rfl) rfl ?_ ?_
   rotate_left
   ·
    go_simp
    rfl
   refine hK.out _ _ ⟨((cell_far (p := ⟨gb283, _, none⟩) NB256_283.out _).trans (((cell_far (p := ⟨gb283, _, none⟩) NB256_283.out _).trans (((cell_far (p := ⟨gb283, _, none⟩) NB256_283.out _).trans (((cell_far (p := ⟨gb283, _, none⟩) NB256_283.out _).trans (((cell_far (p := ⟨gb283, _, none⟩) NB256_283.out _).trans (hHeld.1)))))))))), ((cell_far (p := ⟨gb283, _, none⟩) NB256_283.out _).trans (((cell_far (p := ⟨gb283, _, none⟩) NB256_283.out _).trans (((cell_far (p := ⟨gb283, _, none⟩) NB256_283.out _).trans (((cell_far (p := ⟨gb283, _, none⟩) NB256_283.out _).trans (((cell_far (p := ⟨gb283, _, none⟩) NB256_283.out _).trans (hHeld.2.1)))))))))), ((cell_far (p := ⟨gb283, _, none⟩) NB256_283.out _).trans (((cell_far (p := ⟨gb283, _, none⟩) NB256_283.out _).trans (((cell_far (p := ⟨gb283, _, none⟩) NB256_283.out _).trans (((cell_far (p := ⟨gb283, _, none⟩) NB256_283.out _).trans (((cell_far (p := ⟨gb283, _, none⟩) NB256_283.out _).trans (hHeld.2.2.1)))))))))), ((cell_far (p := ⟨gb283, _, none⟩) NB256_283.out _).trans (((cell_far (p := ⟨gb283, _, none⟩) NB256_283.out _).trans (((cell_far (p := ⟨gb283, _, none⟩) NB256_283.out _).trans (((cell_far (p := ⟨gb283, _, none⟩) NB256_283.out _).trans (((cell_far (p := ⟨gb283, _, none⟩) NB256_283.out _).trans (hHeld.2.2.2.1)))))))))), ((cell_far (p := ⟨gb283, _, none⟩) NB256_283.out _).trans (((cell_far (p := ⟨gb283, _, none⟩) NB256_283.out _).trans (((cell_far (p := ⟨gb283, _, none⟩) NB256_283.out _).trans (((cell_far (p := ⟨gb283, _, none⟩) NB256_283.out _).trans (((cell_far (p := ⟨gb283, _, none⟩) NB256_283.out _).trans (hHeld.2.2.2.2.1)))))))))), ((cell_far (p := ⟨gb283, _, none⟩) NB257_283.out _).trans (((cell_far (p := ⟨gb283, _, none⟩) NB257_283.out _).trans (((cell_far (p := ⟨gb283, _, none⟩) NB257_283.out _).trans (((cell_far (p := ⟨gb283, _, none⟩) NB257_283.out _).trans (((cell_far (p := ⟨gb283, _, none⟩) NB257_283.out _).trans (hHeld.2.2.2.2.2.1)))))))))), ((cell_far (p := ⟨gb283, _, none⟩) NB257_283.out _).trans (((cell_far (p := ⟨gb283, _, none⟩) NB257_283.out _).trans (((cell_far (p := ⟨gb283, _, none⟩) NB257_283.out _).trans (((cell_far (p := ⟨gb283, _, none⟩) NB257_283.out _).trans (((cell_far (p := ⟨gb283, _, none⟩) NB257_283.out _).trans (hHeld.2.2.2.2.2.2))))))))))⟩ (fun hHeld => ?_)
   clear hK K
   refine done_ (done_of HT_.out (by kernel_rfl)) ?_
   have hnb37 := NB256_257.out
   have hnc37 := NB257_256.out
   have hnb38 := NB256_283.out
   have hnc38 := NB283_256.out
   obtain ⟨hcz39_0, hcz39_1, hcz39_2, hcz39_3, hcz39_4, hfz39_0, hfz39_1, hfz39_2, hfz39_3, hfz39_4⟩ := cl5 BK256.out
   try go_wp2_with (first | ((with_reducible refine gate_callee (f := 25) rfl ?_); refine goesL_ (some 27) rfl rfl Try.func25 (by kernel_rfl) rfl #[.agg #[.slice A0_0 l0_0.length c0_0, .slice A0_1 l0_1.length c0_1, .slice A0_2 l0_2.length c0_2, .int .i64 a0_3, .int .i64 a0_4]] rfl (by (try simp only [lm]); first | done | rfl | (simp only [List.length_drop, List.length_take]; rfl)) ?_; (with_reducible refine (laws_toMemory.calls kj4 _ _ l0_0 _ _ l0_1 _ _ l0_2 a0_3 a0_4 t284 t287 t290 t293 t294 _ ?side1 ?side2 ?side3 ?side4 ?side5 ?side6 A15.out).mono ?_); (case side1 => exact Kd.C_below HR0_0.out (be w)); (case side2 => exact HC0_0.out); (case side3 => exact Kd.C_below HR0_1.out (be w)); (case side4 => exact HC0_1.out); (case side5 => exact Kd.C_below HR0_2.out (be w)); (case side6 => exact HC0_2.out); rintro e w40 ⟨v285, v288, v291, rfl, ho0, ho1, ho2, hb⟩; refine ⟨_, rfl, ?_⟩; have HO286 := As.mk (Kd.R_lower (Kd.R_new' (Kd.R_new' ho0 (Kd.R_lt (by (with_reducible repeat (first | apply Kd.R_alloc | apply Kd.R_drewN | apply Kd.R_drew)); exact (Kd.R_mono (Kd.R_far (p := ⟨gb283, 4, none⟩) (Kd.R_far (p := ⟨gb283, 3, none⟩) (Kd.R_far (p := ⟨gb283, 2, none⟩) (Kd.R_far (p := ⟨gb283, 1, none⟩) (Kd.R_far (p := ⟨gb283, 0, none⟩) (Kd.R_types HO261.out BK283.out (by decide)) (fun _ hk => hk.2) (.slice Ao29 t272.length co29)) (fun _ hk => hk.2) (.slice Ao31 t275.length co31)) (fun _ hk => hk.2) (.slice Ao33 t278.length co33)) (fun _ hk => hk.2) (.int .i64 t281)) (fun _ hk => hk.2) (.int .i64 t282)) (fun _ h_ => h_.1))))) (Kd.R_lt (by (with_reducible repeat (first | apply Kd.R_alloc | apply Kd.R_drewN | apply Kd.R_drew)); exact (Kd.R_mono (Kd.R_far (p := ⟨gb283, 4, none⟩) (Kd.R_far (p := ⟨gb283, 3, none⟩) (Kd.R_far (p := ⟨gb283, 2, none⟩) (Kd.R_far (p := ⟨gb283, 1, none⟩) (Kd.R_far (p := ⟨gb283, 0, none⟩) (Kd.R_types HO274.out BK283.out (by decide)) (fun _ hk => hk.2) (.slice Ao29 t272.length co29)) (fun _ hk => hk.2) (.slice Ao31 t275.length co31)) (fun _ hk => hk.2) (.slice Ao33 t278.length co33)) (fun _ hk => hk.2) (.int .i64 t281)) (fun _ hk => hk.2) (.int .i64 t282)) (fun _ h_ => h_.1))))) (below_size (be w))); replace HO261 := As.mk (Kd.R_elder' (by (with_reducible repeat (first | apply Kd.R_alloc | apply Kd.R_drewN | apply Kd.R_drew)); exact (Kd.R_mono (Kd.R_far (p := ⟨gb283, 4, none⟩) (Kd.R_far (p := ⟨gb283, 3, none⟩) (Kd.R_far (p := ⟨gb283, 2, none⟩) (Kd.R_far (p := ⟨gb283, 1, none⟩) (Kd.R_far (p := ⟨gb283, 0, none⟩) (Kd.R_types HO261.out BK283.out (by decide)) (fun _ hk => hk.2) (.slice Ao29 t272.length co29)) (fun _ hk => hk.2) (.slice Ao31 t275.length co31)) (fun _ hk => hk.2) (.slice Ao33 t278.length co33)) (fun _ hk => hk.2) (.int .i64 t281)) (fun _ hk => hk.2) (.int .i64 t282)) (fun _ h_ => h_.1))) (Kd.R_base ho0) hb); replace HO274 := As.mk (Kd.R_elder' (by (with_reducible repeat (first | apply Kd.R_alloc | apply Kd.R_drewN | apply Kd.R_drew)); exact (Kd.R_mono (Kd.R_far (p := ⟨gb283, 4, none⟩) (Kd.R_far (p := ⟨gb283, 3, none⟩) (Kd.R_far (p := ⟨gb283, 2, none⟩) (Kd.R_far (p := ⟨gb283, 1, none⟩) (Kd.R_far (p := ⟨gb283, 0, none⟩) (Kd.R_types HO274.out BK283.out (by decide)) (fun _ hk => hk.2) (.slice Ao29 t272.length co29)) (fun _ hk => hk.2) (.slice Ao31 t275.length co31)) (fun _ hk => hk.2) (.slice Ao33 t278.length co33)) (fun _ hk => hk.2) (.int .i64 t281)) (fun _ hk => hk.2) (.int .i64 t282)) (fun _ h_ => h_.1))) (Kd.R_base ho0) hb); have HO289 := As.mk (Kd.R_lower (Kd.R_new' (Kd.R_new' (Kd.R_new' (Kd.R_new' ho1 (Kd.R_lt (by (with_reducible repeat (first | apply Kd.R_alloc | apply Kd.R_drewN | apply Kd.R_drew)); exact (Kd.R_mono (Kd.R_far (p := ⟨gb283, 4, none⟩) (Kd.R_far (p := ⟨gb283, 3, none⟩) (Kd.R_far (p := ⟨gb283, 2, none⟩) (Kd.R_far (p := ⟨gb283, 1, none⟩) (Kd.R_far (p := ⟨gb283, 0, none⟩) (Kd.R_types HO264.out BK283.out (by decide)) (fun _ hk => hk.2) (.slice Ao29 t272.length co29)) (fun _ hk => hk.2) (.slice Ao31 t275.length co31)) (fun _ hk => hk.2) (.slice Ao33 t278.length co33)) (fun _ hk => hk.2) (.int .i64 t281)) (fun _ hk => hk.2) (.int .i64 t282)) (fun _ h_ => h_.1))))) (Kd.R_lt (by (with_reducible repeat (first | apply Kd.R_alloc | apply Kd.R_drewN | apply Kd.R_drew)); exact (Kd.R_mono (Kd.R_far (p := ⟨gb283, 4, none⟩) (Kd.R_far (p := ⟨gb283, 3, none⟩) (Kd.R_far (p := ⟨gb283, 2, none⟩) (Kd.R_far (p := ⟨gb283, 1, none⟩) (Kd.R_far (p := ⟨gb283, 0, none⟩) (Kd.R_types HO267.out BK283.out (by decide)) (fun _ hk => hk.2) (.slice Ao29 t272.length co29)) (fun _ hk => hk.2) (.slice Ao31 t275.length co31)) (fun _ hk => hk.2) (.slice Ao33 t278.length co33)) (fun _ hk => hk.2) (.int .i64 t281)) (fun _ hk => hk.2) (.int .i64 t282)) (fun _ h_ => h_.1))))) (Kd.R_lt (by (with_reducible repeat (first | apply Kd.R_alloc | apply Kd.R_drewN | apply Kd.R_drew)); exact (Kd.R_mono (Kd.R_far (p := ⟨gb283, 4, none⟩) (Kd.R_far (p := ⟨gb283, 3, none⟩) (Kd.R_far (p := ⟨gb283, 2, none⟩) (Kd.R_far (p := ⟨gb283, 1, none⟩) (Kd.R_far (p := ⟨gb283, 0, none⟩) (Kd.R_types HO277.out BK283.out (by decide)) (fun _ hk => hk.2) (.slice Ao29 t272.length co29)) (fun _ hk => hk.2) (.slice Ao31 t275.length co31)) (fun _ hk => hk.2) (.slice Ao33 t278.length co33)) (fun _ hk => hk.2) (.int .i64 t281)) (fun _ hk => hk.2) (.int .i64 t282)) (fun _ h_ => h_.1))))) (Kd.R_lt (by (with_reducible repeat (first | apply Kd.R_alloc | apply Kd.R_drewN | apply Kd.R_drew)); exact (Kd.R_mono (Kd.R_far (p := ⟨gb283, 4, none⟩) (Kd.R_far (p := ⟨gb283, 3, none⟩) (Kd.R_far (p := ⟨gb283, 2, none⟩) (Kd.R_far (p := ⟨gb283, 1, none⟩) (Kd.R_far (p := ⟨gb283, 0, none⟩) (Kd.R_types HO280.out BK283.out (by decide)) (fun _ hk => hk.2) (.slice Ao29 t272.length co29)) (fun _ hk => hk.2) (.slice Ao31 t275.length co31)) (fun _ hk => hk.2) (.slice Ao33 t278.length co33)) (fun _ hk => hk.2) (.int .i64 t281)) (fun _ hk => hk.2) (.int .i64 t282)) (fun _ h_ => h_.1))))) (below_size (be w))); have HO292 := As.mk (Kd.R_lower (Kd.R_new' (Kd.R_new' (Kd.R_new' (Kd.R_new' ho2 (Kd.R_lt (by (with_reducible repeat (first | apply Kd.R_alloc | apply Kd.R_drewN | apply Kd.R_drew)); exact (Kd.R_mono (Kd.R_far (p := ⟨gb283, 4, none⟩) (Kd.R_far (p := ⟨gb283, 3, none⟩) (Kd.R_far (p := ⟨gb283, 2, none⟩) (Kd.R_far (p := ⟨gb283, 1, none⟩) (Kd.R_far (p := ⟨gb283, 0, none⟩) (Kd.R_types HO264.out BK283.out (by decide)) (fun _ hk => hk.2) (.slice Ao29 t272.length co29)) (fun _ hk => hk.2) (.slice Ao31 t275.length co31)) (fun _ hk => hk.2) (.slice Ao33 t278.length co33)) (fun _ hk => hk.2) (.int .i64 t281)) (fun _ hk => hk.2) (.int .i64 t282)) (fun _ h_ => h_.1))))) (Kd.R_lt (by (with_reducible repeat (first | apply Kd.R_alloc | apply Kd.R_drewN | apply Kd.R_drew)); exact (Kd.R_mono (Kd.R_far (p := ⟨gb283, 4, none⟩) (Kd.R_far (p := ⟨gb283, 3, none⟩) (Kd.R_far (p := ⟨gb283, 2, none⟩) (Kd.R_far (p := ⟨gb283, 1, none⟩) (Kd.R_far (p := ⟨gb283, 0, none⟩) (Kd.R_types HO267.out BK283.out (by decide)) (fun _ hk => hk.2) (.slice Ao29 t272.length co29)) (fun _ hk => hk.2) (.slice Ao31 t275.length co31)) (fun _ hk => hk.2) (.slice Ao33 t278.length co33)) (fun _ hk => hk.2) (.int .i64 t281)) (fun _ hk => hk.2) (.int .i64 t282)) (fun _ h_ => h_.1))))) (Kd.R_lt (by (with_reducible repeat (first | apply Kd.R_alloc | apply Kd.R_drewN | apply Kd.R_drew)); exact (Kd.R_mono (Kd.R_far (p := ⟨gb283, 4, none⟩) (Kd.R_far (p := ⟨gb283, 3, none⟩) (Kd.R_far (p := ⟨gb283, 2, none⟩) (Kd.R_far (p := ⟨gb283, 1, none⟩) (Kd.R_far (p := ⟨gb283, 0, none⟩) (Kd.R_types HO277.out BK283.out (by decide)) (fun _ hk => hk.2) (.slice Ao29 t272.length co29)) (fun _ hk => hk.2) (.slice Ao31 t275.length co31)) (fun _ hk => hk.2) (.slice Ao33 t278.length co33)) (fun _ hk => hk.2) (.int .i64 t281)) (fun _ hk => hk.2) (.int .i64 t282)) (fun _ h_ => h_.1))))) (Kd.R_lt (by (with_reducible repeat (first | apply Kd.R_alloc | apply Kd.R_drewN | apply Kd.R_drew)); exact (Kd.R_mono (Kd.R_far (p := ⟨gb283, 4, none⟩) (Kd.R_far (p := ⟨gb283, 3, none⟩) (Kd.R_far (p := ⟨gb283, 2, none⟩) (Kd.R_far (p := ⟨gb283, 1, none⟩) (Kd.R_far (p := ⟨gb283, 0, none⟩) (Kd.R_types HO280.out BK283.out (by decide)) (fun _ hk => hk.2) (.slice Ao29 t272.length co29)) (fun _ hk => hk.2) (.slice Ao31 t275.length co31)) (fun _ hk => hk.2) (.slice Ao33 t278.length co33)) (fun _ hk => hk.2) (.int .i64 t281)) (fun _ hk => hk.2) (.int .i64 t282)) (fun _ h_ => h_.1))))) (below_size (be w))); replace HO264 := As.mk (Kd.R_mono (Kd.R_told (Kd.R_told (Kd.R_old (by (with_reducible repeat (first | apply Kd.R_alloc | apply Kd.R_drewN | apply Kd.R_drew)); exact (Kd.R_mono (Kd.R_far (p := ⟨gb283, 4, none⟩) (Kd.R_far (p := ⟨gb283, 3, none⟩) (Kd.R_far (p := ⟨gb283, 2, none⟩) (Kd.R_far (p := ⟨gb283, 1, none⟩) (Kd.R_far (p := ⟨gb283, 0, none⟩) (Kd.R_types HO264.out BK283.out (by decide)) (fun _ hk => hk.2) (.slice Ao29 t272.length co29)) (fun _ hk => hk.2) (.slice Ao31 t275.length co31)) (fun _ hk => hk.2) (.slice Ao33 t278.length co33)) (fun _ hk => hk.2) (.int .i64 t281)) (fun _ hk => hk.2) (.int .i64 t282)) (fun _ h_ => h_.1))) hb) (Kd.R_base ho1)) (Kd.R_base ho2)) (fun _ h_ => h_.1)); replace HO267 := As.mk (Kd.R_mono (Kd.R_told (Kd.R_told (Kd.R_old (by (with_reducible repeat (first | apply Kd.R_alloc | apply Kd.R_drewN | apply Kd.R_drew)); exact (Kd.R_mono (Kd.R_far (p := ⟨gb283, 4, none⟩) (Kd.R_far (p := ⟨gb283, 3, none⟩) (Kd.R_far (p := ⟨gb283, 2, none⟩) (Kd.R_far (p := ⟨gb283, 1, none⟩) (Kd.R_far (p := ⟨gb283, 0, none⟩) (Kd.R_types HO267.out BK283.out (by decide)) (fun _ hk => hk.2) (.slice Ao29 t272.length co29)) (fun _ hk => hk.2) (.slice Ao31 t275.length co31)) (fun _ hk => hk.2) (.slice Ao33 t278.length co33)) (fun _ hk => hk.2) (.int .i64 t281)) (fun _ hk => hk.2) (.int .i64 t282)) (fun _ h_ => h_.1))) hb) (Kd.R_base ho1)) (Kd.R_base ho2)) (fun _ h_ => h_.1)); replace HO277 := As.mk (Kd.R_mono (Kd.R_told (Kd.R_told (Kd.R_old (by (with_reducible repeat (first | apply Kd.R_alloc | apply Kd.R_drewN | apply Kd.R_drew)); exact (Kd.R_mono (Kd.R_far (p := ⟨gb283, 4, none⟩) (Kd.R_far (p := ⟨gb283, 3, none⟩) (Kd.R_far (p := ⟨gb283, 2, none⟩) (Kd.R_far (p := ⟨gb283, 1, none⟩) (Kd.R_far (p := ⟨gb283, 0, none⟩) (Kd.R_types HO277.out BK283.out (by decide)) (fun _ hk => hk.2) (.slice Ao29 t272.length co29)) (fun _ hk => hk.2) (.slice Ao31 t275.length co31)) (fun _ hk => hk.2) (.slice Ao33 t278.length co33)) (fun _ hk => hk.2) (.int .i64 t281)) (fun _ hk => hk.2) (.int .i64 t282)) (fun _ h_ => h_.1))) hb) (Kd.R_base ho1)) (Kd.R_base ho2)) (fun _ h_ => h_.1)); replace HO280 := As.mk (Kd.R_mono (Kd.R_told (Kd.R_told (Kd.R_old (by (with_reducible repeat (first | apply Kd.R_alloc | apply Kd.R_drewN | apply Kd.R_drew)); exact (Kd.R_mono (Kd.R_far (p := ⟨gb283, 4, none⟩) (Kd.R_far (p := ⟨gb283, 3, none⟩) (Kd.R_far (p := ⟨gb283, 2, none⟩) (Kd.R_far (p := ⟨gb283, 1, none⟩) (Kd.R_far (p := ⟨gb283, 0, none⟩) (Kd.R_types HO280.out BK283.out (by decide)) (fun _ hk => hk.2) (.slice Ao29 t272.length co29)) (fun _ hk => hk.2) (.slice Ao31 t275.length co31)) (fun _ hk => hk.2) (.slice Ao33 t278.length co33)) (fun _ hk => hk.2) (.int .i64 t281)) (fun _ hk => hk.2) (.int .i64 t282)) (fun _ h_ => h_.1))) hb) (Kd.R_base ho1)) (Kd.R_base ho2)) (fun _ h_ => h_.1)); replace BK256 := As.mk (blk_below (g := gb256) (o := .cells #[.slice A0_0 l0_0.length c0_0, .slice A0_1 l0_1.length c0_1, .slice A0_2 l0_2.length c0_2, .int .i64 a0_3, .int .i64 a0_4] 47 (0, 0)) (by refine pl ?_; refine blk_far ?_ NB256_283.out _; refine pl ?_; refine blk_far ?_ NB256_283.out _; refine pl ?_; refine blk_far ?_ NB256_283.out _; refine pl ?_; refine blk_far ?_ NB256_283.out _; refine pl ?_; refine blk_far ?_ NB256_283.out _; exact bx BK256.out) hb); replace BK257 := As.mk (blk_below (g := gb257) (o := .cells #[.int .i64 a1_0, .int .i64 a1_1] 48 (0, 0)) (by refine pl ?_; refine blk_far ?_ NB257_283.out _; refine pl ?_; refine blk_far ?_ NB257_283.out _; refine pl ?_; refine blk_far ?_ NB257_283.out _; refine pl ?_; refine blk_far ?_ NB257_283.out _; refine pl ?_; refine blk_far ?_ NB257_283.out _; exact bx BK257.out) hb); replace BK283 := As.mk (blk_below (g := gb283) (o := .cells #[.slice Ao29 t272.length co29, .slice Ao31 t275.length co31, .slice Ao33 t278.length co33, .int .i64 t281, .int .i64 t282] 34 (0, 0)) (by refine pl ?_; refine blk_put (cs := #[.slice Ao29 t272.length co29, .slice Ao31 t275.length co31, .slice Ao33 t278.length co33, .int .i64 t281, .int .i64 0]) ?_ 4 _ rfl; refine pl ?_; refine blk_put (cs := #[.slice Ao29 t272.length co29, .slice Ao31 t275.length co31, .slice Ao33 t278.length co33, .int .i64 0, .int .i64 0]) ?_ 3 _ rfl; refine pl ?_; refine blk_put (cs := #[.slice Ao29 t272.length co29, .slice Ao31 t275.length co31, .slice none 0 0, .int .i64 0, .int .i64 0]) ?_ 2 _ rfl; refine pl ?_; refine blk_put (cs := #[.slice Ao29 t272.length co29, .slice none 0 0, .slice none 0 0, .int .i64 0, .int .i64 0]) ?_ 1 _ rfl; refine pl ?_; refine blk_put (cs := #[.slice none 0 0, .slice none 0 0, .slice none 0 0, .int .i64 0, .int .i64 0]) ?_ 0 _ rfl; exact bx BK283.out) hb); replace HB := As.mk (below_step (be w) hb); (try clear hb); (try clear hb2); (try clear hk); (try clear hi); (try clear ho0); (try clear ho1); (try clear ho2)) | ((with_reducible refine gate_dst (N := 9) rfl ?_); refine box_event ?hg (N := 9) ?hd (cs := #[.slice none 0 0, .slice none 0 0, .slice none 0 0, .int .i64 0, .int .i64 0]) (t := 34) ?hr ?_; (case hd => rfl); (case hg => rfl); (case hr => first | (go_simp; done) | (go_simp; rfl)); intro gb295 hg w41 hbox hb; replace HO261 := As.mk (Kd.R_below (by (with_reducible repeat (first | apply Kd.R_alloc | apply Kd.R_drewN | apply Kd.R_drew)); exact HO261.out) hb); replace HO264 := As.mk (Kd.R_below (by (with_reducible repeat (first | apply Kd.R_alloc | apply Kd.R_drewN | apply Kd.R_drew)); exact HO264.out) hb); replace HO267 := As.mk (Kd.R_below (by (with_reducible repeat (first | apply Kd.R_alloc | apply Kd.R_drewN | apply Kd.R_drew)); exact HO267.out) hb); replace HO274 := As.mk (Kd.R_below (by (with_reducible repeat (first | apply Kd.R_alloc | apply Kd.R_drewN | apply Kd.R_drew)); exact HO274.out) hb); replace HO277 := As.mk (Kd.R_below (by (with_reducible repeat (first | apply Kd.R_alloc | apply Kd.R_drewN | apply Kd.R_drew)); exact HO277.out) hb); replace HO280 := As.mk (Kd.R_below (by (with_reducible repeat (first | apply Kd.R_alloc | apply Kd.R_drewN | apply Kd.R_drew)); exact HO280.out) hb); replace HO286 := As.mk (Kd.R_below (by (with_reducible repeat (first | apply Kd.R_alloc | apply Kd.R_drewN | apply Kd.R_drew)); exact HO286.out) hb); replace HO289 := As.mk (Kd.R_below (by (with_reducible repeat (first | apply Kd.R_alloc | apply Kd.R_drewN | apply Kd.R_drew)); exact HO289.out) hb); replace HO292 := As.mk (Kd.R_below (by (with_reducible repeat (first | apply Kd.R_alloc | apply Kd.R_drewN | apply Kd.R_drew)); exact HO292.out) hb); have BK295 := As.mk (hbox); have GW295 := As.mk (gs w hg); have GE295 := As.mk (gs w hg); replace HB := As.mk (below_step (be w) hb); have NB256_295 := As.mk (nl hg (bx BK256.out)); have NB295_256 := As.mk (ng hg (bx BK256.out)); replace BK256 := As.mk (blk_below (bx BK256.out) hb); have NB257_295 := As.mk (nl hg (bx BK257.out)); have NB295_257 := As.mk (ng hg (bx BK257.out)); replace BK257 := As.mk (blk_below (bx BK257.out) hb); have NB283_295 := As.mk (nl hg (bx BK283.out)); have NB295_283 := As.mk (ng hg (bx BK283.out)); replace BK283 := As.mk (blk_below (bx BK283.out) hb); clear hb hbox hg; obtain ⟨Ao42, co42, eo42⟩ := Kd.R_slice HO286.out; subst eo42; have hnb43 := NB295_256.out; have hnc43 := NB256_295.out; have hnb44 := NB295_257.out; have hnc44 := NB257_295.out; have hnb45 := NB295_283.out; have hnc45 := NB283_295.out; obtain ⟨hcz46_0, hcz46_1, hcz46_2, hcz46_3, hcz46_4, hfz46_0, hfz46_1, hfz46_2, hfz46_3, hfz46_4⟩ := cl5 BK295.out; obtain ⟨Ao47, co47, eo47⟩ := Kd.R_slice HO289.out; subst eo47; obtain ⟨Ao48, co48, eo48⟩ := Kd.R_slice HO292.out; subst eo48))
   have n0_ : As (Kd.R k93 93 (((((w41.setCell ⟨gb295, 0, none⟩ (.slice Ao42 t284.length co42)).setCell ⟨gb295, 1, none⟩ (.slice Ao47 t287.length co47)).setCell ⟨gb295, 2, none⟩ (.slice Ao48 t290.length co48)).setCell ⟨gb295, 3, none⟩ (.int .i64 t293)).setCell ⟨gb295, 4, none⟩ (.int .i64 t294)) w.heap.size (fun k_ => some k_ ≠ (.slice Ao29 t272.length co29 : Value).ownBlock ∧ some k_ ≠ (.slice Ao42 t284.length co42 : Value).ownBlock) v260 t259) := ⟨by (with_reducible repeat (first | apply Kd.R_alloc | apply Kd.R_drewN | apply Kd.R_drew)); exact Kd.R_mono (Kd.R_far (p := ⟨gb295, 4, none⟩) (Kd.R_far (p := ⟨gb295, 3, none⟩) (Kd.R_far (p := ⟨gb295, 2, none⟩) (Kd.R_far (p := ⟨gb295, 1, none⟩) (Kd.R_far (p := ⟨gb295, 0, none⟩) (Kd.R_types HO261.out BK295.out (by decide)) (fun _ hk => hk.2) (.slice Ao42 t284.length co42)) (fun _ hk => hk.2) (.slice Ao47 t287.length co47)) (fun _ hk => hk.2) (.slice Ao48 t290.length co48)) (fun _ hk => hk.2) (.int .i64 t293)) (fun _ hk => hk.2) (.int .i64 t294)) (fun _ hk => ⟨hk.1.1, hk.1.2⟩)⟩
   have n1_ : As (Kd.R (Kd.int .i64) 3 (((((w41.setCell ⟨gb295, 0, none⟩ (.slice Ao42 t284.length co42)).setCell ⟨gb295, 1, none⟩ (.slice Ao47 t287.length co47)).setCell ⟨gb295, 2, none⟩ (.slice Ao48 t290.length co48)).setCell ⟨gb295, 3, none⟩ (.int .i64 t293)).setCell ⟨gb295, 4, none⟩ (.int .i64 t294)) w.heap.size (fun k_ => some k_ ≠ (v266 : Value).ownBlock ∧ some k_ ≠ (.slice Ao31 t275.length co31 : Value).ownBlock ∧ some k_ ≠ (.slice Ao33 t278.length co33 : Value).ownBlock ∧ some k_ ≠ (.slice Ao47 t287.length co47 : Value).ownBlock ∧ some k_ ≠ (.slice Ao48 t290.length co48 : Value).ownBlock) v263 t262) := ⟨by (with_reducible repeat (first | apply Kd.R_alloc | apply Kd.R_drewN | apply Kd.R_drew)); exact Kd.R_mono (Kd.R_far (p := ⟨gb295, 4, none⟩) (Kd.R_far (p := ⟨gb295, 3, none⟩) (Kd.R_far (p := ⟨gb295, 2, none⟩) (Kd.R_far (p := ⟨gb295, 1, none⟩) (Kd.R_far (p := ⟨gb295, 0, none⟩) (Kd.R_types HO264.out BK295.out (by decide)) (fun _ hk => hk.2) (.slice Ao42 t284.length co42)) (fun _ hk => hk.2) (.slice Ao47 t287.length co47)) (fun _ hk => hk.2) (.slice Ao48 t290.length co48)) (fun _ hk => hk.2) (.int .i64 t293)) (fun _ hk => hk.2) (.int .i64 t294)) (fun _ hk => ⟨hk.1.1.1.1, ⟨hk.1.1.1.2.1, ⟨hk.1.1.1.2.2, ⟨hk.1.1.2, hk.1.2⟩⟩⟩⟩)⟩
   have n2_ : As (Kd.R (Kd.int .i64) 3 (((((w41.setCell ⟨gb295, 0, none⟩ (.slice Ao42 t284.length co42)).setCell ⟨gb295, 1, none⟩ (.slice Ao47 t287.length co47)).setCell ⟨gb295, 2, none⟩ (.slice Ao48 t290.length co48)).setCell ⟨gb295, 3, none⟩ (.int .i64 t293)).setCell ⟨gb295, 4, none⟩ (.int .i64 t294)) w.heap.size (fun k_ => some k_ ≠ (v263 : Value).ownBlock ∧ some k_ ≠ (.slice Ao31 t275.length co31 : Value).ownBlock ∧ some k_ ≠ (.slice Ao33 t278.length co33 : Value).ownBlock ∧ some k_ ≠ (.slice Ao47 t287.length co47 : Value).ownBlock ∧ some k_ ≠ (.slice Ao48 t290.length co48 : Value).ownBlock) v266 t265) := ⟨by (with_reducible repeat (first | apply Kd.R_alloc | apply Kd.R_drewN | apply Kd.R_drew)); exact Kd.R_mono (Kd.R_far (p := ⟨gb295, 4, none⟩) (Kd.R_far (p := ⟨gb295, 3, none⟩) (Kd.R_far (p := ⟨gb295, 2, none⟩) (Kd.R_far (p := ⟨gb295, 1, none⟩) (Kd.R_far (p := ⟨gb295, 0, none⟩) (Kd.R_types HO267.out BK295.out (by decide)) (fun _ hk => hk.2) (.slice Ao42 t284.length co42)) (fun _ hk => hk.2) (.slice Ao47 t287.length co47)) (fun _ hk => hk.2) (.slice Ao48 t290.length co48)) (fun _ hk => hk.2) (.int .i64 t293)) (fun _ hk => hk.2) (.int .i64 t294)) (fun _ hk => ⟨hk.1.1.1.1, ⟨hk.1.1.1.2.1, ⟨hk.1.1.1.2.2, ⟨hk.1.1.2, hk.1.2⟩⟩⟩⟩)⟩
   have n3_ : As (Kd.R k93 93 (((((w41.setCell ⟨gb295, 0, none⟩ (.slice Ao42 t284.length co42)).setCell ⟨gb295, 1, none⟩ (.slice Ao47 t287.length co47)).setCell ⟨gb295, 2, none⟩ (.slice Ao48 t290.length co48)).setCell ⟨gb295, 3, none⟩ (.int .i64 t293)).setCell ⟨gb295, 4, none⟩ (.int .i64 t294)) w.heap.size (fun k_ => some k_ ≠ (v260 : Value).ownBlock ∧ some k_ ≠ (.slice Ao42 t284.length co42 : Value).ownBlock) (.slice Ao29 t272.length co29) t272) := ⟨by (with_reducible repeat (first | apply Kd.R_alloc | apply Kd.R_drewN | apply Kd.R_drew)); exact Kd.R_mono (Kd.R_far (p := ⟨gb295, 4, none⟩) (Kd.R_far (p := ⟨gb295, 3, none⟩) (Kd.R_far (p := ⟨gb295, 2, none⟩) (Kd.R_far (p := ⟨gb295, 1, none⟩) (Kd.R_far (p := ⟨gb295, 0, none⟩) (Kd.R_types HO274.out BK295.out (by decide)) (fun _ hk => hk.2) (.slice Ao42 t284.length co42)) (fun _ hk => hk.2) (.slice Ao47 t287.length co47)) (fun _ hk => hk.2) (.slice Ao48 t290.length co48)) (fun _ hk => hk.2) (.int .i64 t293)) (fun _ hk => hk.2) (.int .i64 t294)) (fun _ hk => ⟨hk.1.1, hk.1.2⟩)⟩
   have n4_ : As (Kd.R (Kd.int .i64) 3 (((((w41.setCell ⟨gb295, 0, none⟩ (.slice Ao42 t284.length co42)).setCell ⟨gb295, 1, none⟩ (.slice Ao47 t287.length co47)).setCell ⟨gb295, 2, none⟩ (.slice Ao48 t290.length co48)).setCell ⟨gb295, 3, none⟩ (.int .i64 t293)).setCell ⟨gb295, 4, none⟩ (.int .i64 t294)) w.heap.size (fun k_ => some k_ ≠ (v263 : Value).ownBlock ∧ some k_ ≠ (v266 : Value).ownBlock ∧ some k_ ≠ (.slice Ao33 t278.length co33 : Value).ownBlock ∧ some k_ ≠ (.slice Ao47 t287.length co47 : Value).ownBlock ∧ some k_ ≠ (.slice Ao48 t290.length co48 : Value).ownBlock) (.slice Ao31 t275.length co31) t275) := ⟨by (with_reducible repeat (first | apply Kd.R_alloc | apply Kd.R_drewN | apply Kd.R_drew)); exact Kd.R_mono (Kd.R_far (p := ⟨gb295, 4, none⟩) (Kd.R_far (p := ⟨gb295, 3, none⟩) (Kd.R_far (p := ⟨gb295, 2, none⟩) (Kd.R_far (p := ⟨gb295, 1, none⟩) (Kd.R_far (p := ⟨gb295, 0, none⟩) (Kd.R_types HO277.out BK295.out (by decide)) (fun _ hk => hk.2) (.slice Ao42 t284.length co42)) (fun _ hk => hk.2) (.slice Ao47 t287.length co47)) (fun _ hk => hk.2) (.slice Ao48 t290.length co48)) (fun _ hk => hk.2) (.int .i64 t293)) (fun _ hk => hk.2) (.int .i64 t294)) (fun _ hk => ⟨hk.1.1.1.1, ⟨hk.1.1.1.2.1, ⟨hk.1.1.1.2.2, ⟨hk.1.1.2, hk.1.2⟩⟩⟩⟩)⟩
   have n5_ : As (Kd.R (Kd.int .i64) 3 (((((w41.setCell ⟨gb295, 0, none⟩ (.slice Ao42 t284.length co42)).setCell ⟨gb295, 1, none⟩ (.slice Ao47 t287.length co47)).setCell ⟨gb295, 2, none⟩ (.slice Ao48 t290.length co48)).setCell ⟨gb295, 3, none⟩ (.int .i64 t293)).setCell ⟨gb295, 4, none⟩ (.int .i64 t294)) w.heap.size (fun k_ => some k_ ≠ (v263 : Value).ownBlock ∧ some k_ ≠ (v266 : Value).ownBlock ∧ some k_ ≠ (.slice Ao31 t275.length co31 : Value).ownBlock ∧ some k_ ≠ (.slice Ao47 t287.length co47 : Value).ownBlock ∧ some k_ ≠ (.slice Ao48 t290.length co48 : Value).ownBlock) (.slice Ao33 t278.length co33) t278) := ⟨by (with_reducible repeat (first | apply Kd.R_alloc | apply Kd.R_drewN | apply Kd.R_drew)); exact Kd.R_mono (Kd.R_far (p := ⟨gb295, 4, none⟩) (Kd.R_far (p := ⟨gb295, 3, none⟩) (Kd.R_far (p := ⟨gb295, 2, none⟩) (Kd.R_far (p := ⟨gb295, 1, none⟩) (Kd.R_far (p := ⟨gb295, 0, none⟩) (Kd.R_types HO280.out BK295.out (by decide)) (fun _ hk => hk.2) (.slice Ao42 t284.length co42)) (fun _ hk => hk.2) (.slice Ao47 t287.length co47)) (fun _ hk => hk.2) (.slice Ao48 t290.length co48)) (fun _ hk => hk.2) (.int .i64 t293)) (fun _ hk => hk.2) (.int .i64 t294)) (fun _ hk => ⟨hk.1.1.1.1, ⟨hk.1.1.1.2.1, ⟨hk.1.1.1.2.2, ⟨hk.1.1.2, hk.1.2⟩⟩⟩⟩)⟩
   have n6_ : As (Kd.R k93 93 (((((w41.setCell ⟨gb295, 0, none⟩ (.slice Ao42 t284.length co42)).setCell ⟨gb295, 1, none⟩ (.slice Ao47 t287.length co47)).setCell ⟨gb295, 2, none⟩ (.slice Ao48 t290.length co48)).setCell ⟨gb295, 3, none⟩ (.int .i64 t293)).setCell ⟨gb295, 4, none⟩ (.int .i64 t294)) w.heap.size (fun k_ => some k_ ≠ (v260 : Value).ownBlock ∧ some k_ ≠ (.slice Ao29 t272.length co29 : Value).ownBlock) (.slice Ao42 t284.length co42) t284) := ⟨by (with_reducible repeat (first | apply Kd.R_alloc | apply Kd.R_drewN | apply Kd.R_drew)); exact Kd.R_mono (Kd.R_far (p := ⟨gb295, 4, none⟩) (Kd.R_far (p := ⟨gb295, 3, none⟩) (Kd.R_far (p := ⟨gb295, 2, none⟩) (Kd.R_far (p := ⟨gb295, 1, none⟩) (Kd.R_far (p := ⟨gb295, 0, none⟩) (Kd.R_types HO286.out BK295.out (by decide)) (fun _ hk => hk.2) (.slice Ao42 t284.length co42)) (fun _ hk => hk.2) (.slice Ao47 t287.length co47)) (fun _ hk => hk.2) (.slice Ao48 t290.length co48)) (fun _ hk => hk.2) (.int .i64 t293)) (fun _ hk => hk.2) (.int .i64 t294)) (fun _ hk => ⟨hk.1.1.2, hk.1.2⟩)⟩
   have n7_ : As (Kd.R (Kd.int .i64) 3 (((((w41.setCell ⟨gb295, 0, none⟩ (.slice Ao42 t284.length co42)).setCell ⟨gb295, 1, none⟩ (.slice Ao47 t287.length co47)).setCell ⟨gb295, 2, none⟩ (.slice Ao48 t290.length co48)).setCell ⟨gb295, 3, none⟩ (.int .i64 t293)).setCell ⟨gb295, 4, none⟩ (.int .i64 t294)) w.heap.size (fun k_ => some k_ ≠ (v263 : Value).ownBlock ∧ some k_ ≠ (v266 : Value).ownBlock ∧ some k_ ≠ (.slice Ao31 t275.length co31 : Value).ownBlock ∧ some k_ ≠ (.slice Ao33 t278.length co33 : Value).ownBlock ∧ some k_ ≠ (.slice Ao48 t290.length co48 : Value).ownBlock) (.slice Ao47 t287.length co47) t287) := ⟨by (with_reducible repeat (first | apply Kd.R_alloc | apply Kd.R_drewN | apply Kd.R_drew)); exact Kd.R_mono (Kd.R_far (p := ⟨gb295, 4, none⟩) (Kd.R_far (p := ⟨gb295, 3, none⟩) (Kd.R_far (p := ⟨gb295, 2, none⟩) (Kd.R_far (p := ⟨gb295, 1, none⟩) (Kd.R_far (p := ⟨gb295, 0, none⟩) (Kd.R_types HO289.out BK295.out (by decide)) (fun _ hk => hk.2) (.slice Ao42 t284.length co42)) (fun _ hk => hk.2) (.slice Ao47 t287.length co47)) (fun _ hk => hk.2) (.slice Ao48 t290.length co48)) (fun _ hk => hk.2) (.int .i64 t293)) (fun _ hk => hk.2) (.int .i64 t294)) (fun _ hk => ⟨hk.1.1.1.1.2, ⟨hk.1.1.1.2, ⟨hk.1.1.2, ⟨hk.1.2, hk.1.1.1.1.1⟩⟩⟩⟩)⟩
   have n8_ : As (Kd.R (Kd.int .i64) 3 (((((w41.setCell ⟨gb295, 0, none⟩ (.slice Ao42 t284.length co42)).setCell ⟨gb295, 1, none⟩ (.slice Ao47 t287.length co47)).setCell ⟨gb295, 2, none⟩ (.slice Ao48 t290.length co48)).setCell ⟨gb295, 3, none⟩ (.int .i64 t293)).setCell ⟨gb295, 4, none⟩ (.int .i64 t294)) w.heap.size (fun k_ => some k_ ≠ (v263 : Value).ownBlock ∧ some k_ ≠ (v266 : Value).ownBlock ∧ some k_ ≠ (.slice Ao31 t275.length co31 : Value).ownBlock ∧ some k_ ≠ (.slice Ao33 t278.length co33 : Value).ownBlock ∧ some k_ ≠ (.slice Ao47 t287.length co47 : Value).ownBlock) (.slice Ao48 t290.length co48) t290) := ⟨by (with_reducible repeat (first | apply Kd.R_alloc | apply Kd.R_drewN | apply Kd.R_drew)); exact Kd.R_mono (Kd.R_far (p := ⟨gb295, 4, none⟩) (Kd.R_far (p := ⟨gb295, 3, none⟩) (Kd.R_far (p := ⟨gb295, 2, none⟩) (Kd.R_far (p := ⟨gb295, 1, none⟩) (Kd.R_far (p := ⟨gb295, 0, none⟩) (Kd.R_types HO292.out BK295.out (by decide)) (fun _ hk => hk.2) (.slice Ao42 t284.length co42)) (fun _ hk => hk.2) (.slice Ao47 t287.length co47)) (fun _ hk => hk.2) (.slice Ao48 t290.length co48)) (fun _ hk => hk.2) (.int .i64 t293)) (fun _ hk => hk.2) (.int .i64 t294)) (fun _ hk => ⟨hk.1.1.1.1.2, ⟨hk.1.1.1.2, ⟨hk.1.1.2, ⟨hk.1.2, hk.1.1.1.1.1⟩⟩⟩⟩)⟩
   have n9_ : As ((((((w41.setCell ⟨gb295, 0, none⟩ (.slice Ao42 t284.length co42)).setCell ⟨gb295, 1, none⟩ (.slice Ao47 t287.length co47)).setCell ⟨gb295, 2, none⟩ (.slice Ao48 t290.length co48)).setCell ⟨gb295, 3, none⟩ (.int .i64 t293)).setCell ⟨gb295, 4, none⟩ (.int .i64 t294)).heap[gb256]? = some (.cells #[.slice A0_0 l0_0.length c0_0, .slice A0_1 l0_1.length c0_1, .slice A0_2 l0_2.length c0_2, .int .i64 a0_3, .int .i64 a0_4] 47 (0, 0))) := ⟨by refine pl ?_; refine blk_far ?_ NB256_295.out _; refine pl ?_; refine blk_far ?_ NB256_295.out _; refine pl ?_; refine blk_far ?_ NB256_295.out _; refine pl ?_; refine blk_far ?_ NB256_295.out _; refine pl ?_; refine blk_far ?_ NB256_295.out _; exact bx BK256.out⟩
   have n10_ : As ((((((w41.setCell ⟨gb295, 0, none⟩ (.slice Ao42 t284.length co42)).setCell ⟨gb295, 1, none⟩ (.slice Ao47 t287.length co47)).setCell ⟨gb295, 2, none⟩ (.slice Ao48 t290.length co48)).setCell ⟨gb295, 3, none⟩ (.int .i64 t293)).setCell ⟨gb295, 4, none⟩ (.int .i64 t294)).heap[gb257]? = some (.cells #[.int .i64 a1_0, .int .i64 a1_1] 48 (0, 0))) := ⟨by refine pl ?_; refine blk_far ?_ NB257_295.out _; refine pl ?_; refine blk_far ?_ NB257_295.out _; refine pl ?_; refine blk_far ?_ NB257_295.out _; refine pl ?_; refine blk_far ?_ NB257_295.out _; refine pl ?_; refine blk_far ?_ NB257_295.out _; exact bx BK257.out⟩
   have n11_ : As ((((((w41.setCell ⟨gb295, 0, none⟩ (.slice Ao42 t284.length co42)).setCell ⟨gb295, 1, none⟩ (.slice Ao47 t287.length co47)).setCell ⟨gb295, 2, none⟩ (.slice Ao48 t290.length co48)).setCell ⟨gb295, 3, none⟩ (.int .i64 t293)).setCell ⟨gb295, 4, none⟩ (.int .i64 t294)).heap[gb283]? = some (.cells #[.slice Ao29 t272.length co29, .slice Ao31 t275.length co31, .slice Ao33 t278.length co33, .int .i64 t281, .int .i64 t282] 34 (0, 0))) := ⟨by refine pl ?_; refine blk_far ?_ NB283_295.out _; refine pl ?_; refine blk_far ?_ NB283_295.out _; refine pl ?_; refine blk_far ?_ NB283_295.out _; refine pl ?_; refine blk_far ?_ NB283_295.out _; refine pl ?_; refine blk_far ?_ NB283_295.out _; exact bx BK283.out⟩
   have n12_ : As ((((((w41.setCell ⟨gb295, 0, none⟩ (.slice Ao42 t284.length co42)).setCell ⟨gb295, 1, none⟩ (.slice Ao47 t287.length co47)).setCell ⟨gb295, 2, none⟩ (.slice Ao48 t290.length co48)).setCell ⟨gb295, 3, none⟩ (.int .i64 t293)).setCell ⟨gb295, 4, none⟩ (.int .i64 t294)).heap[gb295]? = some (.cells #[.slice Ao42 t284.length co42, .slice Ao47 t287.length co47, .slice Ao48 t290.length co48, .int .i64 t293, .int .i64 t294] 34 (0, 0))) := ⟨by refine pl ?_; refine blk_put (cs := #[.slice Ao42 t284.length co42, .slice Ao47 t287.length co47, .slice Ao48 t290.length co48, .int .i64 t293, .int .i64 0]) ?_ 4 _ rfl; refine pl ?_; refine blk_put (cs := #[.slice Ao42 t284.length co42, .slice Ao47 t287.length co47, .slice Ao48 t290.length co48, .int .i64 0, .int .i64 0]) ?_ 3 _ rfl; refine pl ?_; refine blk_put (cs := #[.slice Ao42 t284.length co42, .slice Ao47 t287.length co47, .slice none 0 0, .int .i64 0, .int .i64 0]) ?_ 2 _ rfl; refine pl ?_; refine blk_put (cs := #[.slice Ao42 t284.length co42, .slice none 0 0, .slice none 0 0, .int .i64 0, .int .i64 0]) ?_ 1 _ rfl; refine pl ?_; refine blk_put (cs := #[.slice none 0 0, .slice none 0 0, .slice none 0 0, .int .i64 0, .int .i64 0]) ?_ 0 _ rfl; exact bx BK295.out⟩
   have n13_ : As (Below w.heap.size w (((((w41.setCell ⟨gb295, 0, none⟩ (.slice Ao42 t284.length co42)).setCell ⟨gb295, 1, none⟩ (.slice Ao47 t287.length co47)).setCell ⟨gb295, 2, none⟩ (.slice Ao48 t290.length co48)).setCell ⟨gb295, 3, none⟩ (.int .i64 t293)).setCell ⟨gb295, 4, none⟩ (.int .i64 t294))) := ⟨be w⟩
   (try clear HO261)
   (try clear HO264)
   (try clear HO267)
   (try clear HO274)
   (try clear HO277)
   (try clear HO280)
   (try clear HO286)
   (try clear HO289)
   (try clear HO292)
   (try clear BK256)
   (try clear BK257)
   (try clear BK283)
   (try clear BK295)
   (try clear HB)
   generalize (((((w41.setCell ⟨gb295, 0, none⟩ (.slice Ao42 t284.length co42)).setCell ⟨gb295, 1, none⟩ (.slice Ao47 t287.length co47)).setCell ⟨gb295, 2, none⟩ (.slice Ao48 t290.length co48)).setCell ⟨gb295, 3, none⟩ (.int .i64 t293)).setCell ⟨gb295, 4, none⟩ (.int .i64 t294)) = w49 at n0_ n1_ n2_ n3_ n4_ n5_ n6_ n7_ n8_ n9_ n10_ n11_ n12_ n13_ ⊢
   have HO261 := n0_
   have HO264 := n1_
   have HO267 := n2_
   have HO274 := n3_
   have HO277 := n4_
   have HO280 := n5_
   have HO286 := n6_
   have HO289 := n7_
   have HO292 := n8_
   have BK256 := n9_
   have BK257 := n10_
   have BK283 := n11_
   have BK295 := n12_
   have HB := n13_
   clear n0_ n1_ n2_ n3_ n4_ n5_ n6_ n7_ n8_ n9_ n10_ n11_ n12_ n13_
   replace HO261 := As.mk (Kd.R_drew HO261.out)
   replace HO264 := As.mk (Kd.R_drew HO264.out)
   replace HO267 := As.mk (Kd.R_drew HO267.out)
   replace HO274 := As.mk (Kd.R_drew HO274.out)
   replace HO277 := As.mk (Kd.R_drew HO277.out)
   replace HO280 := As.mk (Kd.R_drew HO280.out)
   replace HO286 := As.mk (Kd.R_drew HO286.out)
   replace HO289 := As.mk (Kd.R_drew HO289.out)
   replace HO292 := As.mk (Kd.R_drew HO292.out)
   replace BK256 := As.mk (blk_drew BK256.out)
   replace BK257 := As.mk (blk_drew BK257.out)
   replace BK283 := As.mk (blk_drew BK283.out)
   replace BK295 := As.mk (blk_drew BK295.out)
   replace HB := As.mk (below_drew1 HB.out)
   refine start_ (n := 7) (S := fun w' => w'.cell? ⟨gb295, 0, none⟩ = some (.slice Ao42 t284.length co42) ∧ w'.cell? ⟨gb295, 1, none⟩ = some (.slice Ao47 t287.length co47) ∧ w'.cell? ⟨gb295, 2, none⟩ = some (.slice Ao48 t290.length co48) ∧ w'.cell? ⟨gb295, 3, none⟩ = some (.int .i64 t293) ∧ w'.cell? ⟨gb295, 4, none⟩ = some (.int .i64 t294) ∧ w'.cell? ⟨gb257, 0, none⟩ = some (.int .i64 a1_0) ∧ w'.cell? ⟨gb257, 1, none⟩ = some (.int .i64 a1_1)) (ds := []) #[O, O, O, O, O, O, O] (by kernel_rfl) rfl rfl ⟨(blk_cell BK295.out 0).trans rfl, (blk_cell BK295.out 1).trans rfl, (blk_cell BK295.out 2).trans rfl, (blk_cell BK295.out 3).trans rfl, (blk_cell BK295.out 4).trans rfl, (blk_cell BK257.out 0).trans rfl, (blk_cell BK257.out 1).trans rfl⟩ (fun hHeld => ?_)
   generalize w49.drew = w50 at HO261 HO264 HO267 HO274 HO277 HO280 HO286 HO289 HO292 BK256 BK257 BK283 BK295 HB hHeld ⊢
   refine pure_ (i := 3) (N := some 31) (v := ?_) (a' := ?_) #[O, O, O, I, O, O, O] rfl rfl (by kernel_rfl) (fun _ _ _ h => h) (Or.inl ⟨by rfl, ?_⟩) ?_ ?_
   rotate_left
   ·
    intro w'
    go_simp
    with_reducible rfl
   rotate_left
   ·
    simp only [pk, i64_w, i32_w]
    rfl
   refine take_ (i := 0) (N := some 28) (v := ?_) (a' := ?_) #[I, O, O, I, O, O, O] rfl rfl (by kernel_rfl) (fun _ _ _ h => h) (Or.inl ⟨by rfl, ?_⟩) hHeld ?_ ?_
   rotate_left
   ·
    rintro w' ⟨s0, s1, s2, s3, s4, s5, s6⟩
    go_simp
    with_reducible rfl
   rotate_left
   ·
    simp only [pk, i64_w, i32_w]
    rfl
   refine take_ (i := 1) (N := some 29) (v := ?_) (a' := ?_) #[I, I, O, I, O, O, O] rfl rfl (by kernel_rfl) (fun _ _ _ h => h) (Or.inl ⟨by rfl, ?_⟩) hHeld ?_ ?_
   rotate_left
   ·
    rintro w' ⟨s0, s1, s2, s3, s4, s5, s6⟩
    go_simp
    with_reducible rfl
   rotate_left
   ·
    simp only [pk, i64_w, i32_w]
    rfl
   refine join_ (σ := Value × Value × Value × Nat) 1 #[true, true, true, true, true, true, false] (fun s_ => [(30, .agg #[.int .i64 t296, .int .i64 t297]), (32, .agg #[s_.1, s_.2.1, s_.2.2.1, .int .i64 t307, .int .i64 t308]), (10, .pointer (some ⟨s_.2.2.2, 0, none⟩))]) (fun s_ w' => (w'.cell? ⟨gb295, 0, none⟩ = some (.slice Ao42 t284.length co42) ∧ w'.cell? ⟨gb295, 1, none⟩ = some (.slice Ao47 t287.length co47) ∧ w'.cell? ⟨gb295, 2, none⟩ = some (.slice Ao48 t290.length co48) ∧ w'.cell? ⟨gb295, 3, none⟩ = some (.int .i64 t293) ∧ w'.cell? ⟨gb295, 4, none⟩ = some (.int .i64 t294) ∧ w'.cell? ⟨gb257, 0, none⟩ = some (.int .i64 a1_0) ∧ w'.cell? ⟨gb257, 1, none⟩ = some (.int .i64 a1_1)) ∧ (Kd.R k93 93 w' w.heap.size (fun k_ => some k_ ≠ (.slice Ao29 t272.length co29 : Value).ownBlock ∧ some k_ ≠ (.slice Ao42 t284.length co42 : Value).ownBlock ∧ some k_ ≠ (s_.1 : Value).ownBlock) v260 t259) ∧ (Kd.R (Kd.int .i64) 3 w' w.heap.size (fun k_ => some k_ ≠ (v266 : Value).ownBlock ∧ some k_ ≠ (.slice Ao31 t275.length co31 : Value).ownBlock ∧ some k_ ≠ (.slice Ao33 t278.length co33 : Value).ownBlock ∧ some k_ ≠ (.slice Ao47 t287.length co47 : Value).ownBlock ∧ some k_ ≠ (.slice Ao48 t290.length co48 : Value).ownBlock ∧ some k_ ≠ (s_.2.1 : Value).ownBlock ∧ some k_ ≠ (s_.2.2.1 : Value).ownBlock) v263 t262) ∧ (Kd.R (Kd.int .i64) 3 w' w.heap.size (fun k_ => some k_ ≠ (v263 : Value).ownBlock ∧ some k_ ≠ (.slice Ao31 t275.length co31 : Value).ownBlock ∧ some k_ ≠ (.slice Ao33 t278.length co33 : Value).ownBlock ∧ some k_ ≠ (.slice Ao47 t287.length co47 : Value).ownBlock ∧ some k_ ≠ (.slice Ao48 t290.length co48 : Value).ownBlock ∧ some k_ ≠ (s_.2.1 : Value).ownBlock ∧ some k_ ≠ (s_.2.2.1 : Value).ownBlock) v266 t265) ∧ (Kd.R k93 93 w' w.heap.size (fun k_ => some k_ ≠ (v260 : Value).ownBlock ∧ some k_ ≠ (.slice Ao42 t284.length co42 : Value).ownBlock ∧ some k_ ≠ (s_.1 : Value).ownBlock) (.slice Ao29 t272.length co29) t272) ∧ (Kd.R (Kd.int .i64) 3 w' w.heap.size (fun k_ => some k_ ≠ (v263 : Value).ownBlock ∧ some k_ ≠ (v266 : Value).ownBlock ∧ some k_ ≠ (.slice Ao33 t278.length co33 : Value).ownBlock ∧ some k_ ≠ (.slice Ao47 t287.length co47 : Value).ownBlock ∧ some k_ ≠ (.slice Ao48 t290.length co48 : Value).ownBlock ∧ some k_ ≠ (s_.2.1 : Value).ownBlock ∧ some k_ ≠ (s_.2.2.1 : Value).ownBlock) (.slice Ao31 t275.length co31) t275) ∧ (Kd.R (Kd.int .i64) 3 w' w.heap.size (fun k_ => some k_ ≠ (v263 : Value).ownBlock ∧ some k_ ≠ (v266 : Value).ownBlock ∧ some k_ ≠ (.slice Ao31 t275.length co31 : Value).ownBlock ∧ some k_ ≠ (.slice Ao47 t287.length co47 : Value).ownBlock ∧ some k_ ≠ (.slice Ao48 t290.length co48 : Value).ownBlock ∧ some k_ ≠ (s_.2.1 : Value).ownBlock ∧ some k_ ≠ (s_.2.2.1 : Value).ownBlock) (.slice Ao33 t278.length co33) t278) ∧ (Kd.R k93 93 w' w.heap.size (fun k_ => some k_ ≠ (v260 : Value).ownBlock ∧ some k_ ≠ (.slice Ao29 t272.length co29 : Value).ownBlock ∧ some k_ ≠ (s_.1 : Value).ownBlock) (.slice Ao42 t284.length co42) t284) ∧ (Kd.R (Kd.int .i64) 3 w' w.heap.size (fun k_ => some k_ ≠ (v263 : Value).ownBlock ∧ some k_ ≠ (v266 : Value).ownBlock ∧ some k_ ≠ (.slice Ao31 t275.length co31 : Value).ownBlock ∧ some k_ ≠ (.slice Ao33 t278.length co33 : Value).ownBlock ∧ some k_ ≠ (.slice Ao48 t290.length co48 : Value).ownBlock ∧ some k_ ≠ (s_.2.1 : Value).ownBlock ∧ some k_ ≠ (s_.2.2.1 : Value).ownBlock) (.slice Ao47 t287.length co47) t287) ∧ (Kd.R (Kd.int .i64) 3 w' w.heap.size (fun k_ => some k_ ≠ (v263 : Value).ownBlock ∧ some k_ ≠ (v266 : Value).ownBlock ∧ some k_ ≠ (.slice Ao31 t275.length co31 : Value).ownBlock ∧ some k_ ≠ (.slice Ao33 t278.length co33 : Value).ownBlock ∧ some k_ ≠ (.slice Ao47 t287.length co47 : Value).ownBlock ∧ some k_ ≠ (s_.2.1 : Value).ownBlock ∧ some k_ ≠ (s_.2.2.1 : Value).ownBlock) (.slice Ao48 t290.length co48) t290) ∧ (Kd.R k93 93 w' w.heap.size (fun k_ => some k_ ≠ (v260 : Value).ownBlock ∧ some k_ ≠ (.slice Ao29 t272.length co29 : Value).ownBlock ∧ some k_ ≠ (.slice Ao42 t284.length co42 : Value).ownBlock) s_.1 t298) ∧ (Kd.R (Kd.int .i64) 3 w' w.heap.size (fun k_ => some k_ ≠ (v263 : Value).ownBlock ∧ some k_ ≠ (v266 : Value).ownBlock ∧ some k_ ≠ (.slice Ao31 t275.length co31 : Value).ownBlock ∧ some k_ ≠ (.slice Ao33 t278.length co33 : Value).ownBlock ∧ some k_ ≠ (.slice Ao47 t287.length co47 : Value).ownBlock ∧ some k_ ≠ (.slice Ao48 t290.length co48 : Value).ownBlock ∧ some k_ ≠ (s_.2.2.1 : Value).ownBlock) s_.2.1 t301) ∧ (Kd.R (Kd.int .i64) 3 w' w.heap.size (fun k_ => some k_ ≠ (v263 : Value).ownBlock ∧ some k_ ≠ (v266 : Value).ownBlock ∧ some k_ ≠ (.slice Ao31 t275.length co31 : Value).ownBlock ∧ some k_ ≠ (.slice Ao33 t278.length co33 : Value).ownBlock ∧ some k_ ≠ (.slice Ao47 t287.length co47 : Value).ownBlock ∧ some k_ ≠ (.slice Ao48 t290.length co48 : Value).ownBlock ∧ some k_ ≠ (s_.2.1 : Value).ownBlock) s_.2.2.1 t304) ∧ (w'.heap[gb256]? = some (.cells #[.slice A0_0 l0_0.length c0_0, .slice A0_1 l0_1.length c0_1, .slice A0_2 l0_2.length c0_2, .int .i64 a0_3, .int .i64 a0_4] 47 (0, 0))) ∧ (w'.heap[gb257]? = some (.cells #[.int .i64 a1_0, .int .i64 a1_1] 48 (0, 0))) ∧ (w'.heap[gb283]? = some (.cells #[.slice Ao29 t272.length co29, .slice Ao31 t275.length co31, .slice Ao33 t278.length co33, .int .i64 t281, .int .i64 t282] 34 (0, 0))) ∧ (w'.heap[gb295]? = some (.cells #[.slice Ao42 t284.length co42, .slice Ao47 t287.length co47, .slice Ao48 t290.length co48, .int .i64 t293, .int .i64 t294] 34 (0, 0))) ∧ (w'.heap[s_.2.2.2]? = some (.cells #[.slice none 0 0, .slice none 0 0, .slice none 0 0, .int .i64 0, .int .i64 0] 34 (0, 0))) ∧ (w.heap.size ≤ s_.2.2.2) ∧ (w.heap.size ≤ s_.2.2.2) ∧ (gb256 ≠ s_.2.2.2) ∧ (s_.2.2.2 ≠ gb256) ∧ (gb257 ≠ s_.2.2.2) ∧ (s_.2.2.2 ≠ gb257) ∧ (gb283 ≠ s_.2.2.2) ∧ (s_.2.2.2 ≠ gb283) ∧ (gb295 ≠ s_.2.2.2) ∧ (s_.2.2.2 ≠ gb295) ∧ (Below w.heap.size w w')) ?_ ?_
   rotate_left
   ·
    intro hCont
    refine two_ (i := 2) (j := 5) (Ni := some 30) (Nj := some 10) #[true, true, true, true, false, false, false] #[true, true, false, true, false, true, false] rfl rfl rfl rfl (by kernel_rfl) (by decide) (by decide) (fun K hK => ?_) (fun K hK => ?_)
    ·
     skip
     refine goes_ Try.func26 (by kernel_rfl) rfl #[.agg #[.int .i64 a1_0, .int .i64 a1_1]] (by rfl) rfl rfl (by (try simp only [lm]); first | done | rfl | (simp only [List.length_drop, List.length_take]; rfl)) ?_
     with_reducible refine (laws_toValue.calls a1_0 a1_1 t296 t297 _ A16.out).mono ?_
     rintro e w51 ⟨rfl, hb⟩
     refine ⟨_, rfl, ?_⟩
     replace HO261 := As.mk (Kd.R_below (by (with_reducible repeat (first | apply Kd.R_alloc | apply Kd.R_drewN | apply Kd.R_drew)); exact HO261.out) hb)
     replace HO264 := As.mk (Kd.R_below (by (with_reducible repeat (first | apply Kd.R_alloc | apply Kd.R_drewN | apply Kd.R_drew)); exact HO264.out) hb)
     replace HO267 := As.mk (Kd.R_below (by (with_reducible repeat (first | apply Kd.R_alloc | apply Kd.R_drewN | apply Kd.R_drew)); exact HO267.out) hb)
     replace HO274 := As.mk (Kd.R_below (by (with_reducible repeat (first | apply Kd.R_alloc | apply Kd.R_drewN | apply Kd.R_drew)); exact HO274.out) hb)
     replace HO277 := As.mk (Kd.R_below (by (with_reducible repeat (first | apply Kd.R_alloc | apply Kd.R_drewN | apply Kd.R_drew)); exact HO277.out) hb)
     replace HO280 := As.mk (Kd.R_below (by (with_reducible repeat (first | apply Kd.R_alloc | apply Kd.R_drewN | apply Kd.R_drew)); exact HO280.out) hb)
     replace HO286 := As.mk (Kd.R_below (by (with_reducible repeat (first | apply Kd.R_alloc | apply Kd.R_drewN | apply Kd.R_drew)); exact HO286.out) hb)
     replace HO289 := As.mk (Kd.R_below (by (with_reducible repeat (first | apply Kd.R_alloc | apply Kd.R_drewN | apply Kd.R_drew)); exact HO289.out) hb)
     replace HO292 := As.mk (Kd.R_below (by (with_reducible repeat (first | apply Kd.R_alloc | apply Kd.R_drewN | apply Kd.R_drew)); exact HO292.out) hb)
     replace BK256 := As.mk (blk_below (bx BK256.out) hb)
     replace BK257 := As.mk (blk_below (bx BK257.out) hb)
     replace BK283 := As.mk (blk_below (bx BK283.out) hb)
     replace BK295 := As.mk (blk_below (bx BK295.out) hb)
     replace HB := As.mk (below_step (be w) hb)
     (try clear hb)
     (try clear hb2)
     (try clear hk)
     (try clear hi)
     refine hK.out _ _ ⟨(blk_cell BK295.out 0).trans rfl, (blk_cell BK295.out 1).trans rfl, (blk_cell BK295.out 2).trans rfl, (blk_cell BK295.out 3).trans rfl, (blk_cell BK295.out 4).trans rfl, (blk_cell BK257.out 0).trans rfl, (blk_cell BK257.out 1).trans rfl⟩ (fun hHeld => ?_)
     clear hK K
     refine norm_ (a' := ?_) ?_ ?_
     rotate_left
     ·
      show Act.put _ (some 30) _ = _
      simp only [pk, i64_w, i32_w]
      rfl
     refine two_ (i := 4) (j := 5) (Ni := some 32) (Nj := some 10) #[true, true, true, true, true, false, false] #[true, true, true, true, false, true, false] rfl rfl rfl rfl (by kernel_rfl) (by decide) (by decide) (fun K hK => ?_) (fun K hK => ?_)
     ·
      skip
      refine goes_ Try.func21 (by kernel_rfl) rfl #[.agg #[.slice Ao42 t284.length co42, .slice Ao47 t287.length co47, .slice Ao48 t290.length co48, .int .i64 t293, .int .i64 t294], .agg #[.int .i64 t296, .int .i64 t297], .int .i64 a2] (by rfl) rfl rfl (by (try simp only [lm]); first | done | rfl | (simp only [List.length_drop, List.length_take]; rfl)) ?_
      with_reducible refine (impl_Written.calls _ _ t284 _ _ t287 _ _ t290 t293 t294 t296 t297 a2 t298 t301 t304 t307 t308 _ ?side1 ?side2 ?side3 ?side4 ?side5 ?side6 A17.out).mono ?_
      (case side1 => repeat (first | exact (Kd.R_reads' HO286.out).2.2 | (with_reducible refine Kd.C_alloc ?_ _) | (with_reducible refine Kd.C_drewN ?_ _) | (with_reducible refine Kd.C_drew ?_)))
      (case side2 => exact (Kd.R_reads' HO286.out).2.1)
      (case side3 => repeat (first | exact (Kd.R_reads' HO289.out).2.2 | (with_reducible refine Kd.C_alloc ?_ _) | (with_reducible refine Kd.C_drewN ?_ _) | (with_reducible refine Kd.C_drew ?_)))
      (case side4 => exact (Kd.R_reads' HO289.out).2.1)
      (case side5 => repeat (first | exact (Kd.R_reads' HO292.out).2.2 | (with_reducible refine Kd.C_alloc ?_ _) | (with_reducible refine Kd.C_drewN ?_ _) | (with_reducible refine Kd.C_drew ?_)))
      (case side6 => exact (Kd.R_reads' HO292.out).2.1)
      rintro e w52 ⟨v299, v302, v305, rfl, ho0, ho1, ho2, hb⟩
      refine ⟨_, rfl, ?_⟩
      have HO300 := As.mk (Kd.R_lower (Kd.R_new' (Kd.R_new' (Kd.R_new' ho0 (Kd.R_lt (by (with_reducible repeat (first | apply Kd.R_alloc | apply Kd.R_drewN | apply Kd.R_drew)); exact HO261.out))) (Kd.R_lt (by (with_reducible repeat (first | apply Kd.R_alloc | apply Kd.R_drewN | apply Kd.R_drew)); exact HO274.out))) (Kd.R_lt (by (with_reducible repeat (first | apply Kd.R_alloc | apply Kd.R_drewN | apply Kd.R_drew)); exact HO286.out))) (below_size (be w)))
      replace HO261 := As.mk (Kd.R_elder' (by (with_reducible repeat (first | apply Kd.R_alloc | apply Kd.R_drewN | apply Kd.R_drew)); exact HO261.out) (Kd.R_base ho0) hb)
      replace HO274 := As.mk (Kd.R_elder' (by (with_reducible repeat (first | apply Kd.R_alloc | apply Kd.R_drewN | apply Kd.R_drew)); exact HO274.out) (Kd.R_base ho0) hb)
      replace HO286 := As.mk (Kd.R_elder' (by (with_reducible repeat (first | apply Kd.R_alloc | apply Kd.R_drewN | apply Kd.R_drew)); exact HO286.out) (Kd.R_base ho0) hb)
      have HO303 := As.mk (Kd.R_lower (Kd.R_new' (Kd.R_new' (Kd.R_new' (Kd.R_new' (Kd.R_new' (Kd.R_new' ho1 (Kd.R_lt (by (with_reducible repeat (first | apply Kd.R_alloc | apply Kd.R_drewN | apply Kd.R_drew)); exact HO264.out))) (Kd.R_lt (by (with_reducible repeat (first | apply Kd.R_alloc | apply Kd.R_drewN | apply Kd.R_drew)); exact HO267.out))) (Kd.R_lt (by (with_reducible repeat (first | apply Kd.R_alloc | apply Kd.R_drewN | apply Kd.R_drew)); exact HO277.out))) (Kd.R_lt (by (with_reducible repeat (first | apply Kd.R_alloc | apply Kd.R_drewN | apply Kd.R_drew)); exact HO280.out))) (Kd.R_lt (by (with_reducible repeat (first | apply Kd.R_alloc | apply Kd.R_drewN | apply Kd.R_drew)); exact HO289.out))) (Kd.R_lt (by (with_reducible repeat (first | apply Kd.R_alloc | apply Kd.R_drewN | apply Kd.R_drew)); exact HO292.out))) (below_size (be w)))
      have HO306 := As.mk (Kd.R_lower (Kd.R_new' (Kd.R_new' (Kd.R_new' (Kd.R_new' (Kd.R_new' (Kd.R_new' ho2 (Kd.R_lt (by (with_reducible repeat (first | apply Kd.R_alloc | apply Kd.R_drewN | apply Kd.R_drew)); exact HO264.out))) (Kd.R_lt (by (with_reducible repeat (first | apply Kd.R_alloc | apply Kd.R_drewN | apply Kd.R_drew)); exact HO267.out))) (Kd.R_lt (by (with_reducible repeat (first | apply Kd.R_alloc | apply Kd.R_drewN | apply Kd.R_drew)); exact HO277.out))) (Kd.R_lt (by (with_reducible repeat (first | apply Kd.R_alloc | apply Kd.R_drewN | apply Kd.R_drew)); exact HO280.out))) (Kd.R_lt (by (with_reducible repeat (first | apply Kd.R_alloc | apply Kd.R_drewN | apply Kd.R_drew)); exact HO289.out))) (Kd.R_lt (by (with_reducible repeat (first | apply Kd.R_alloc | apply Kd.R_drewN | apply Kd.R_drew)); exact HO292.out))) (below_size (be w)))
      replace HO264 := As.mk (Kd.R_mono (Kd.R_told (Kd.R_told (Kd.R_old (by (with_reducible repeat (first | apply Kd.R_alloc | apply Kd.R_drewN | apply Kd.R_drew)); exact HO264.out) hb) (Kd.R_base ho1)) (Kd.R_base ho2)) (fun _ h_ => h_.1))
      replace HO267 := As.mk (Kd.R_mono (Kd.R_told (Kd.R_told (Kd.R_old (by (with_reducible repeat (first | apply Kd.R_alloc | apply Kd.R_drewN | apply Kd.R_drew)); exact HO267.out) hb) (Kd.R_base ho1)) (Kd.R_base ho2)) (fun _ h_ => h_.1))
      replace HO277 := As.mk (Kd.R_mono (Kd.R_told (Kd.R_told (Kd.R_old (by (with_reducible repeat (first | apply Kd.R_alloc | apply Kd.R_drewN | apply Kd.R_drew)); exact HO277.out) hb) (Kd.R_base ho1)) (Kd.R_base ho2)) (fun _ h_ => h_.1))
      replace HO280 := As.mk (Kd.R_mono (Kd.R_told (Kd.R_told (Kd.R_old (by (with_reducible repeat (first | apply Kd.R_alloc | apply Kd.R_drewN | apply Kd.R_drew)); exact HO280.out) hb) (Kd.R_base ho1)) (Kd.R_base ho2)) (fun _ h_ => h_.1))
      replace HO289 := As.mk (Kd.R_mono (Kd.R_told (Kd.R_told (Kd.R_old (by (with_reducible repeat (first | apply Kd.R_alloc | apply Kd.R_drewN | apply Kd.R_drew)); exact HO289.out) hb) (Kd.R_base ho1)) (Kd.R_base ho2)) (fun _ h_ => h_.1))
      replace HO292 := As.mk (Kd.R_mono (Kd.R_told (Kd.R_told (Kd.R_old (by (with_reducible repeat (first | apply Kd.R_alloc | apply Kd.R_drewN | apply Kd.R_drew)); exact HO292.out) hb) (Kd.R_base ho1)) (Kd.R_base ho2)) (fun _ h_ => h_.1))
      replace BK256 := As.mk (blk_below (bx BK256.out) hb)
      replace BK257 := As.mk (blk_below (bx BK257.out) hb)
      replace BK283 := As.mk (blk_below (bx BK283.out) hb)
      replace BK295 := As.mk (blk_below (bx BK295.out) hb)
      replace HB := As.mk (below_step (be w) hb)
      (try clear hb)
      (try clear hb2)
      (try clear hk)
      (try clear hi)
      (try clear ho0)
      (try clear ho1)
      (try clear ho2)
      refine hK.out _ _ ⟨(blk_cell BK295.out 0).trans rfl, (blk_cell BK295.out 1).trans rfl, (blk_cell BK295.out 2).trans rfl, (blk_cell BK295.out 3).trans rfl, (blk_cell BK295.out 4).trans rfl, (blk_cell BK257.out 0).trans rfl, (blk_cell BK257.out 1).trans rfl⟩ (fun hHeld => ?_)
      clear hK K
      refine norm_ (a' := ?_) ?_ ?_
      rotate_left
      ·
       show Act.put _ (some 32) _ = _
       simp only [pk, i64_w, i32_w]
       rfl
      refine one_ (i := 5) (N := some 10) #[I, I, I, I, I, I, O] rfl rfl (by kernel_rfl) (by decide) (fun K hK => ?_)
      refine box_step ?hg (N := 10) ?hd (cs := #[.slice none 0 0, .slice none 0 0, .slice none 0 0, .int .i64 0, .int .i64 0]) (t := 34) ?hr ?_; (case hd => rfl); (case hg => rfl); (case hr => first | (go_simp; done) | (go_simp; rfl))
      intro gb309 hg w53 hbox hb
      replace HO261 := As.mk (Kd.R_below (by (with_reducible repeat (first | apply Kd.R_alloc | apply Kd.R_drewN | apply Kd.R_drew)); exact HO261.out) hb)
      replace HO264 := As.mk (Kd.R_below (by (with_reducible repeat (first | apply Kd.R_alloc | apply Kd.R_drewN | apply Kd.R_drew)); exact HO264.out) hb)
      replace HO267 := As.mk (Kd.R_below (by (with_reducible repeat (first | apply Kd.R_alloc | apply Kd.R_drewN | apply Kd.R_drew)); exact HO267.out) hb)
      replace HO274 := As.mk (Kd.R_below (by (with_reducible repeat (first | apply Kd.R_alloc | apply Kd.R_drewN | apply Kd.R_drew)); exact HO274.out) hb)
      replace HO277 := As.mk (Kd.R_below (by (with_reducible repeat (first | apply Kd.R_alloc | apply Kd.R_drewN | apply Kd.R_drew)); exact HO277.out) hb)
      replace HO280 := As.mk (Kd.R_below (by (with_reducible repeat (first | apply Kd.R_alloc | apply Kd.R_drewN | apply Kd.R_drew)); exact HO280.out) hb)
      replace HO286 := As.mk (Kd.R_below (by (with_reducible repeat (first | apply Kd.R_alloc | apply Kd.R_drewN | apply Kd.R_drew)); exact HO286.out) hb)
      replace HO289 := As.mk (Kd.R_below (by (with_reducible repeat (first | apply Kd.R_alloc | apply Kd.R_drewN | apply Kd.R_drew)); exact HO289.out) hb)
      replace HO292 := As.mk (Kd.R_below (by (with_reducible repeat (first | apply Kd.R_alloc | apply Kd.R_drewN | apply Kd.R_drew)); exact HO292.out) hb)
      replace HO300 := As.mk (Kd.R_below (by (with_reducible repeat (first | apply Kd.R_alloc | apply Kd.R_drewN | apply Kd.R_drew)); exact HO300.out) hb)
      replace HO303 := As.mk (Kd.R_below (by (with_reducible repeat (first | apply Kd.R_alloc | apply Kd.R_drewN | apply Kd.R_drew)); exact HO303.out) hb)
      replace HO306 := As.mk (Kd.R_below (by (with_reducible repeat (first | apply Kd.R_alloc | apply Kd.R_drewN | apply Kd.R_drew)); exact HO306.out) hb)
      have BK309 := As.mk (hbox)
      have GW309 := As.mk (gs w hg)
      have GE309 := As.mk (gs w hg)
      replace HB := As.mk (below_step (be w) hb)
      have NB256_309 := As.mk (nl hg (bx BK256.out))
      have NB309_256 := As.mk (ng hg (bx BK256.out))
      replace BK256 := As.mk (blk_below (bx BK256.out) hb)
      have NB257_309 := As.mk (nl hg (bx BK257.out))
      have NB309_257 := As.mk (ng hg (bx BK257.out))
      replace BK257 := As.mk (blk_below (bx BK257.out) hb)
      have NB283_309 := As.mk (nl hg (bx BK283.out))
      have NB309_283 := As.mk (ng hg (bx BK283.out))
      replace BK283 := As.mk (blk_below (bx BK283.out) hb)
      have NB295_309 := As.mk (nl hg (bx BK295.out))
      have NB309_295 := As.mk (ng hg (bx BK295.out))
      replace BK295 := As.mk (blk_below (bx BK295.out) hb)
      clear hb hbox hg
      refine hK.out _ _ ⟨(blk_cell BK295.out 0).trans rfl, (blk_cell BK295.out 1).trans rfl, (blk_cell BK295.out 2).trans rfl, (blk_cell BK295.out 3).trans rfl, (blk_cell BK295.out 4).trans rfl, (blk_cell BK257.out 0).trans rfl, (blk_cell BK257.out 1).trans rfl⟩ (fun hHeld => ?_)
      clear hK K
      refine norm_ (a' := ?_) ?_ ?_
      rotate_left
      ·
       show Act.put _ (some 10) _ = _
       simp only [pk, i64_w, i32_w]
       rfl
      exact norm_ (by simp only [putAll, Act.put, List.setIfInBounds_toArray, List.set_cons_zero, List.set_cons_succ]) (hCont (v299, v302, v305, gb309) _ ⟨hHeld, (by (with_reducible repeat (first | apply Kd.R_alloc | apply Kd.R_drewN | apply Kd.R_drew)); exact Kd.R_mono HO261.out (fun _ hk => ⟨hk.1.1, ⟨hk.1.2, hk.2⟩⟩)), (by (with_reducible repeat (first | apply Kd.R_alloc | apply Kd.R_drewN | apply Kd.R_drew)); exact Kd.R_mono HO264.out (fun _ hk => ⟨hk.1.1.1, ⟨hk.1.1.2.1, ⟨hk.1.1.2.2.1, ⟨hk.1.1.2.2.2.1, ⟨hk.1.1.2.2.2.2, ⟨hk.1.2, hk.2⟩⟩⟩⟩⟩⟩)), (by (with_reducible repeat (first | apply Kd.R_alloc | apply Kd.R_drewN | apply Kd.R_drew)); exact Kd.R_mono HO267.out (fun _ hk => ⟨hk.1.1.1, ⟨hk.1.1.2.1, ⟨hk.1.1.2.2.1, ⟨hk.1.1.2.2.2.1, ⟨hk.1.1.2.2.2.2, ⟨hk.1.2, hk.2⟩⟩⟩⟩⟩⟩)), (by (with_reducible repeat (first | apply Kd.R_alloc | apply Kd.R_drewN | apply Kd.R_drew)); exact Kd.R_mono HO274.out (fun _ hk => ⟨hk.1.1, ⟨hk.1.2, hk.2⟩⟩)), (by (with_reducible repeat (first | apply Kd.R_alloc | apply Kd.R_drewN | apply Kd.R_drew)); exact Kd.R_mono HO277.out (fun _ hk => ⟨hk.1.1.1, ⟨hk.1.1.2.1, ⟨hk.1.1.2.2.1, ⟨hk.1.1.2.2.2.1, ⟨hk.1.1.2.2.2.2, ⟨hk.1.2, hk.2⟩⟩⟩⟩⟩⟩)), (by (with_reducible repeat (first | apply Kd.R_alloc | apply Kd.R_drewN | apply Kd.R_drew)); exact Kd.R_mono HO280.out (fun _ hk => ⟨hk.1.1.1, ⟨hk.1.1.2.1, ⟨hk.1.1.2.2.1, ⟨hk.1.1.2.2.2.1, ⟨hk.1.1.2.2.2.2, ⟨hk.1.2, hk.2⟩⟩⟩⟩⟩⟩)), (by (with_reducible repeat (first | apply Kd.R_alloc | apply Kd.R_drewN | apply Kd.R_drew)); exact Kd.R_mono HO286.out (fun _ hk => ⟨hk.1.1, ⟨hk.1.2, hk.2⟩⟩)), (by (with_reducible repeat (first | apply Kd.R_alloc | apply Kd.R_drewN | apply Kd.R_drew)); exact Kd.R_mono HO289.out (fun _ hk => ⟨hk.1.1.1, ⟨hk.1.1.2.1, ⟨hk.1.1.2.2.1, ⟨hk.1.1.2.2.2.1, ⟨hk.1.1.2.2.2.2, ⟨hk.1.2, hk.2⟩⟩⟩⟩⟩⟩)), (by (with_reducible repeat (first | apply Kd.R_alloc | apply Kd.R_drewN | apply Kd.R_drew)); exact Kd.R_mono HO292.out (fun _ hk => ⟨hk.1.1.1, ⟨hk.1.1.2.1, ⟨hk.1.1.2.2.1, ⟨hk.1.1.2.2.2.1, ⟨hk.1.1.2.2.2.2, ⟨hk.1.2, hk.2⟩⟩⟩⟩⟩⟩)), (by (with_reducible repeat (first | apply Kd.R_alloc | apply Kd.R_drewN | apply Kd.R_drew)); exact Kd.R_mono HO300.out (fun _ hk => ⟨hk.1.1.2, ⟨hk.1.2, hk.2⟩⟩)), (by (with_reducible repeat (first | apply Kd.R_alloc | apply Kd.R_drewN | apply Kd.R_drew)); exact Kd.R_mono HO303.out (fun _ hk => ⟨hk.1.1.1.1.1.2, ⟨hk.1.1.1.1.2, ⟨hk.1.1.1.2, ⟨hk.1.1.2, ⟨hk.1.2, ⟨hk.2, hk.1.1.1.1.1.1⟩⟩⟩⟩⟩⟩)), (by (with_reducible repeat (first | apply Kd.R_alloc | apply Kd.R_drewN | apply Kd.R_drew)); exact Kd.R_mono HO306.out (fun _ hk => ⟨hk.1.1.1.1.1.2, ⟨hk.1.1.1.1.2, ⟨hk.1.1.1.2, ⟨hk.1.1.2, ⟨hk.1.2, ⟨hk.2, hk.1.1.1.1.1.1⟩⟩⟩⟩⟩⟩)), (bx BK256.out), (bx BK257.out), (bx BK283.out), (bx BK295.out), (bx BK309.out), GW309.out, GE309.out, NB256_309.out, NB309_256.out, NB257_309.out, NB309_257.out, NB283_309.out, NB309_283.out, NB295_309.out, NB309_295.out, (be w)⟩)
     ·
      skip
      refine box_step ?hg (N := 10) ?hd (cs := #[.slice none 0 0, .slice none 0 0, .slice none 0 0, .int .i64 0, .int .i64 0]) (t := 34) ?hr ?_; (case hd => rfl); (case hg => rfl); (case hr => first | (go_simp; done) | (go_simp; rfl))
      intro gb309 hg w52 hbox hb
      replace HO261 := As.mk (Kd.R_below (by (with_reducible repeat (first | apply Kd.R_alloc | apply Kd.R_drewN | apply Kd.R_drew)); exact HO261.out) hb)
      replace HO264 := As.mk (Kd.R_below (by (with_reducible repeat (first | apply Kd.R_alloc | apply Kd.R_drewN | apply Kd.R_drew)); exact HO264.out) hb)
      replace HO267 := As.mk (Kd.R_below (by (with_reducible repeat (first | apply Kd.R_alloc | apply Kd.R_drewN | apply Kd.R_drew)); exact HO267.out) hb)
      replace HO274 := As.mk (Kd.R_below (by (with_reducible repeat (first | apply Kd.R_alloc | apply Kd.R_drewN | apply Kd.R_drew)); exact HO274.out) hb)
      replace HO277 := As.mk (Kd.R_below (by (with_reducible repeat (first | apply Kd.R_alloc | apply Kd.R_drewN | apply Kd.R_drew)); exact HO277.out) hb)
      replace HO280 := As.mk (Kd.R_below (by (with_reducible repeat (first | apply Kd.R_alloc | apply Kd.R_drewN | apply Kd.R_drew)); exact HO280.out) hb)
      replace HO286 := As.mk (Kd.R_below (by (with_reducible repeat (first | apply Kd.R_alloc | apply Kd.R_drewN | apply Kd.R_drew)); exact HO286.out) hb)
      replace HO289 := As.mk (Kd.R_below (by (with_reducible repeat (first | apply Kd.R_alloc | apply Kd.R_drewN | apply Kd.R_drew)); exact HO289.out) hb)
      replace HO292 := As.mk (Kd.R_below (by (with_reducible repeat (first | apply Kd.R_alloc | apply Kd.R_drewN | apply Kd.R_drew)); exact HO292.out) hb)
      have BK309 := As.mk (hbox)
      have GW309 := As.mk (gs w hg)
      have GE309 := As.mk (gs w hg)
      replace HB := As.mk (below_step (be w) hb)
      have NB256_309 := As.mk (nl hg (bx BK256.out))
      have NB309_256 := As.mk (ng hg (bx BK256.out))
      replace BK256 := As.mk (blk_below (bx BK256.out) hb)
      have NB257_309 := As.mk (nl hg (bx BK257.out))
      have NB309_257 := As.mk (ng hg (bx BK257.out))
      replace BK257 := As.mk (blk_below (bx BK257.out) hb)
      have NB283_309 := As.mk (nl hg (bx BK283.out))
      have NB309_283 := As.mk (ng hg (bx BK283.out))
      replace BK283 := As.mk (blk_below (bx BK283.out) hb)
      have NB295_309 := As.mk (nl hg (bx BK295.out))
      have NB309_295 := As.mk (ng hg (bx BK295.out))
      replace BK295 := As.mk (blk_below (bx BK295.out) hb)
      clear hb hbox hg
      refine hK.out _ _ ⟨(blk_cell BK295.out 0).trans rfl, (blk_cell BK295.out 1).trans rfl, (blk_cell BK295.out 2).trans rfl, (blk_cell BK295.out 3).trans rfl, (blk_cell BK295.out 4).trans rfl, (blk_cell BK257.out 0).trans rfl, (blk_cell BK257.out 1).trans rfl⟩ (fun hHeld => ?_)
      clear hK K
      refine norm_ (a' := ?_) ?_ ?_
      rotate_left
      ·
       show Act.put _ (some 10) _ = _
       simp only [pk, i64_w, i32_w]
       rfl
      refine one_ (i := 4) (N := some 32) #[I, I, I, I, I, I, O] rfl rfl (by kernel_rfl) (by decide) (fun K hK => ?_)
      refine goes_ Try.func21 (by kernel_rfl) rfl #[.agg #[.slice Ao42 t284.length co42, .slice Ao47 t287.length co47, .slice Ao48 t290.length co48, .int .i64 t293, .int .i64 t294], .agg #[.int .i64 t296, .int .i64 t297], .int .i64 a2] (by rfl) rfl rfl (by (try simp only [lm]); first | done | rfl | (simp only [List.length_drop, List.length_take]; rfl)) ?_
      with_reducible refine (impl_Written.calls _ _ t284 _ _ t287 _ _ t290 t293 t294 t296 t297 a2 t298 t301 t304 t307 t308 _ ?side1 ?side2 ?side3 ?side4 ?side5 ?side6 A17.out).mono ?_
      (case side1 => repeat (first | exact (Kd.R_reads' HO286.out).2.2 | (with_reducible refine Kd.C_alloc ?_ _) | (with_reducible refine Kd.C_drewN ?_ _) | (with_reducible refine Kd.C_drew ?_)))
      (case side2 => exact (Kd.R_reads' HO286.out).2.1)
      (case side3 => repeat (first | exact (Kd.R_reads' HO289.out).2.2 | (with_reducible refine Kd.C_alloc ?_ _) | (with_reducible refine Kd.C_drewN ?_ _) | (with_reducible refine Kd.C_drew ?_)))
      (case side4 => exact (Kd.R_reads' HO289.out).2.1)
      (case side5 => repeat (first | exact (Kd.R_reads' HO292.out).2.2 | (with_reducible refine Kd.C_alloc ?_ _) | (with_reducible refine Kd.C_drewN ?_ _) | (with_reducible refine Kd.C_drew ?_)))
      (case side6 => exact (Kd.R_reads' HO292.out).2.1)
      rintro e w53 ⟨v299, v302, v305, rfl, ho0, ho1, ho2, hb⟩
      refine ⟨_, rfl, ?_⟩
      have HO300 := As.mk (Kd.R_lower (Kd.R_new' (Kd.R_new' (Kd.R_new' ho0 (Kd.R_lt (by (with_reducible repeat (first | apply Kd.R_alloc | apply Kd.R_drewN | apply Kd.R_drew)); exact HO261.out))) (Kd.R_lt (by (with_reducible repeat (first | apply Kd.R_alloc | apply Kd.R_drewN | apply Kd.R_drew)); exact HO274.out))) (Kd.R_lt (by (with_reducible repeat (first | apply Kd.R_alloc | apply Kd.R_drewN | apply Kd.R_drew)); exact HO286.out))) (below_size (be w)))
      replace HO261 := As.mk (Kd.R_elder' (by (with_reducible repeat (first | apply Kd.R_alloc | apply Kd.R_drewN | apply Kd.R_drew)); exact HO261.out) (Kd.R_base ho0) hb)
      replace HO274 := As.mk (Kd.R_elder' (by (with_reducible repeat (first | apply Kd.R_alloc | apply Kd.R_drewN | apply Kd.R_drew)); exact HO274.out) (Kd.R_base ho0) hb)
      replace HO286 := As.mk (Kd.R_elder' (by (with_reducible repeat (first | apply Kd.R_alloc | apply Kd.R_drewN | apply Kd.R_drew)); exact HO286.out) (Kd.R_base ho0) hb)
      have HO303 := As.mk (Kd.R_lower (Kd.R_new' (Kd.R_new' (Kd.R_new' (Kd.R_new' (Kd.R_new' (Kd.R_new' ho1 (Kd.R_lt (by (with_reducible repeat (first | apply Kd.R_alloc | apply Kd.R_drewN | apply Kd.R_drew)); exact HO264.out))) (Kd.R_lt (by (with_reducible repeat (first | apply Kd.R_alloc | apply Kd.R_drewN | apply Kd.R_drew)); exact HO267.out))) (Kd.R_lt (by (with_reducible repeat (first | apply Kd.R_alloc | apply Kd.R_drewN | apply Kd.R_drew)); exact HO277.out))) (Kd.R_lt (by (with_reducible repeat (first | apply Kd.R_alloc | apply Kd.R_drewN | apply Kd.R_drew)); exact HO280.out))) (Kd.R_lt (by (with_reducible repeat (first | apply Kd.R_alloc | apply Kd.R_drewN | apply Kd.R_drew)); exact HO289.out))) (Kd.R_lt (by (with_reducible repeat (first | apply Kd.R_alloc | apply Kd.R_drewN | apply Kd.R_drew)); exact HO292.out))) (below_size (be w)))
      have HO306 := As.mk (Kd.R_lower (Kd.R_new' (Kd.R_new' (Kd.R_new' (Kd.R_new' (Kd.R_new' (Kd.R_new' ho2 (Kd.R_lt (by (with_reducible repeat (first | apply Kd.R_alloc | apply Kd.R_drewN | apply Kd.R_drew)); exact HO264.out))) (Kd.R_lt (by (with_reducible repeat (first | apply Kd.R_alloc | apply Kd.R_drewN | apply Kd.R_drew)); exact HO267.out))) (Kd.R_lt (by (with_reducible repeat (first | apply Kd.R_alloc | apply Kd.R_drewN | apply Kd.R_drew)); exact HO277.out))) (Kd.R_lt (by (with_reducible repeat (first | apply Kd.R_alloc | apply Kd.R_drewN | apply Kd.R_drew)); exact HO280.out))) (Kd.R_lt (by (with_reducible repeat (first | apply Kd.R_alloc | apply Kd.R_drewN | apply Kd.R_drew)); exact HO289.out))) (Kd.R_lt (by (with_reducible repeat (first | apply Kd.R_alloc | apply Kd.R_drewN | apply Kd.R_drew)); exact HO292.out))) (below_size (be w)))
      replace HO264 := As.mk (Kd.R_mono (Kd.R_told (Kd.R_told (Kd.R_old (by (with_reducible repeat (first | apply Kd.R_alloc | apply Kd.R_drewN | apply Kd.R_drew)); exact HO264.out) hb) (Kd.R_base ho1)) (Kd.R_base ho2)) (fun _ h_ => h_.1))
      replace HO267 := As.mk (Kd.R_mono (Kd.R_told (Kd.R_told (Kd.R_old (by (with_reducible repeat (first | apply Kd.R_alloc | apply Kd.R_drewN | apply Kd.R_drew)); exact HO267.out) hb) (Kd.R_base ho1)) (Kd.R_base ho2)) (fun _ h_ => h_.1))
      replace HO277 := As.mk (Kd.R_mono (Kd.R_told (Kd.R_told (Kd.R_old (by (with_reducible repeat (first | apply Kd.R_alloc | apply Kd.R_drewN | apply Kd.R_drew)); exact HO277.out) hb) (Kd.R_base ho1)) (Kd.R_base ho2)) (fun _ h_ => h_.1))
      replace HO280 := As.mk (Kd.R_mono (Kd.R_told (Kd.R_told (Kd.R_old (by (with_reducible repeat (first | apply Kd.R_alloc | apply Kd.R_drewN | apply Kd.R_drew)); exact HO280.out) hb) (Kd.R_base ho1)) (Kd.R_base ho2)) (fun _ h_ => h_.1))
      replace HO289 := As.mk (Kd.R_mono (Kd.R_told (Kd.R_told (Kd.R_old (by (with_reducible repeat (first | apply Kd.R_alloc | apply Kd.R_drewN | apply Kd.R_drew)); exact HO289.out) hb) (Kd.R_base ho1)) (Kd.R_base ho2)) (fun _ h_ => h_.1))
      replace HO292 := As.mk (Kd.R_mono (Kd.R_told (Kd.R_told (Kd.R_old (by (with_reducible repeat (first | apply Kd.R_alloc | apply Kd.R_drewN | apply Kd.R_drew)); exact HO292.out) hb) (Kd.R_base ho1)) (Kd.R_base ho2)) (fun _ h_ => h_.1))
      replace BK256 := As.mk (blk_below (bx BK256.out) hb)
      replace BK257 := As.mk (blk_below (bx BK257.out) hb)
      replace BK283 := As.mk (blk_below (bx BK283.out) hb)
      replace BK295 := As.mk (blk_below (bx BK295.out) hb)
      replace BK309 := As.mk (blk_below (bx BK309.out) hb)
      replace HB := As.mk (below_step (be w) hb)
      (try clear hb)
      (try clear hb2)
      (try clear hk)
      (try clear hi)
      (try clear ho0)
      (try clear ho1)
      (try clear ho2)
      refine hK.out _ _ ⟨(blk_cell BK295.out 0).trans rfl, (blk_cell BK295.out 1).trans rfl, (blk_cell BK295.out 2).trans rfl, (blk_cell BK295.out 3).trans rfl, (blk_cell BK295.out 4).trans rfl, (blk_cell BK257.out 0).trans rfl, (blk_cell BK257.out 1).trans rfl⟩ (fun hHeld => ?_)
      clear hK K
      refine norm_ (a' := ?_) ?_ ?_
      rotate_left
      ·
       show Act.put _ (some 32) _ = _
       simp only [pk, i64_w, i32_w]
       rfl
      exact norm_ (by simp only [putAll, Act.put, List.setIfInBounds_toArray, List.set_cons_zero, List.set_cons_succ]) (hCont (v299, v302, v305, gb309) _ ⟨hHeld, (by (with_reducible repeat (first | apply Kd.R_alloc | apply Kd.R_drewN | apply Kd.R_drew)); exact Kd.R_mono HO261.out (fun _ hk => ⟨hk.1.1, ⟨hk.1.2, hk.2⟩⟩)), (by (with_reducible repeat (first | apply Kd.R_alloc | apply Kd.R_drewN | apply Kd.R_drew)); exact Kd.R_mono HO264.out (fun _ hk => ⟨hk.1.1.1, ⟨hk.1.1.2.1, ⟨hk.1.1.2.2.1, ⟨hk.1.1.2.2.2.1, ⟨hk.1.1.2.2.2.2, ⟨hk.1.2, hk.2⟩⟩⟩⟩⟩⟩)), (by (with_reducible repeat (first | apply Kd.R_alloc | apply Kd.R_drewN | apply Kd.R_drew)); exact Kd.R_mono HO267.out (fun _ hk => ⟨hk.1.1.1, ⟨hk.1.1.2.1, ⟨hk.1.1.2.2.1, ⟨hk.1.1.2.2.2.1, ⟨hk.1.1.2.2.2.2, ⟨hk.1.2, hk.2⟩⟩⟩⟩⟩⟩)), (by (with_reducible repeat (first | apply Kd.R_alloc | apply Kd.R_drewN | apply Kd.R_drew)); exact Kd.R_mono HO274.out (fun _ hk => ⟨hk.1.1, ⟨hk.1.2, hk.2⟩⟩)), (by (with_reducible repeat (first | apply Kd.R_alloc | apply Kd.R_drewN | apply Kd.R_drew)); exact Kd.R_mono HO277.out (fun _ hk => ⟨hk.1.1.1, ⟨hk.1.1.2.1, ⟨hk.1.1.2.2.1, ⟨hk.1.1.2.2.2.1, ⟨hk.1.1.2.2.2.2, ⟨hk.1.2, hk.2⟩⟩⟩⟩⟩⟩)), (by (with_reducible repeat (first | apply Kd.R_alloc | apply Kd.R_drewN | apply Kd.R_drew)); exact Kd.R_mono HO280.out (fun _ hk => ⟨hk.1.1.1, ⟨hk.1.1.2.1, ⟨hk.1.1.2.2.1, ⟨hk.1.1.2.2.2.1, ⟨hk.1.1.2.2.2.2, ⟨hk.1.2, hk.2⟩⟩⟩⟩⟩⟩)), (by (with_reducible repeat (first | apply Kd.R_alloc | apply Kd.R_drewN | apply Kd.R_drew)); exact Kd.R_mono HO286.out (fun _ hk => ⟨hk.1.1, ⟨hk.1.2, hk.2⟩⟩)), (by (with_reducible repeat (first | apply Kd.R_alloc | apply Kd.R_drewN | apply Kd.R_drew)); exact Kd.R_mono HO289.out (fun _ hk => ⟨hk.1.1.1, ⟨hk.1.1.2.1, ⟨hk.1.1.2.2.1, ⟨hk.1.1.2.2.2.1, ⟨hk.1.1.2.2.2.2, ⟨hk.1.2, hk.2⟩⟩⟩⟩⟩⟩)), (by (with_reducible repeat (first | apply Kd.R_alloc | apply Kd.R_drewN | apply Kd.R_drew)); exact Kd.R_mono HO292.out (fun _ hk => ⟨hk.1.1.1, ⟨hk.1.1.2.1, ⟨hk.1.1.2.2.1, ⟨hk.1.1.2.2.2.1, ⟨hk.1.1.2.2.2.2, ⟨hk.1.2, hk.2⟩⟩⟩⟩⟩⟩)), (by (with_reducible repeat (first | apply Kd.R_alloc | apply Kd.R_drewN | apply Kd.R_drew)); exact Kd.R_mono HO300.out (fun _ hk => ⟨hk.1.1.2, ⟨hk.1.2, hk.2⟩⟩)), (by (with_reducible repeat (first | apply Kd.R_alloc | apply Kd.R_drewN | apply Kd.R_drew)); exact Kd.R_mono HO303.out (fun _ hk => ⟨hk.1.1.1.1.1.2, ⟨hk.1.1.1.1.2, ⟨hk.1.1.1.2, ⟨hk.1.1.2, ⟨hk.1.2, ⟨hk.2, hk.1.1.1.1.1.1⟩⟩⟩⟩⟩⟩)), (by (with_reducible repeat (first | apply Kd.R_alloc | apply Kd.R_drewN | apply Kd.R_drew)); exact Kd.R_mono HO306.out (fun _ hk => ⟨hk.1.1.1.1.1.2, ⟨hk.1.1.1.1.2, ⟨hk.1.1.1.2, ⟨hk.1.1.2, ⟨hk.1.2, ⟨hk.2, hk.1.1.1.1.1.1⟩⟩⟩⟩⟩⟩)), (bx BK256.out), (bx BK257.out), (bx BK283.out), (bx BK295.out), (bx BK309.out), GW309.out, GE309.out, NB256_309.out, NB309_256.out, NB257_309.out, NB309_257.out, NB283_309.out, NB309_283.out, NB295_309.out, NB309_295.out, (be w)⟩)
    ·
     skip
     refine box_step ?hg (N := 10) ?hd (cs := #[.slice none 0 0, .slice none 0 0, .slice none 0 0, .int .i64 0, .int .i64 0]) (t := 34) ?hr ?_; (case hd => rfl); (case hg => rfl); (case hr => first | (go_simp; done) | (go_simp; rfl))
     intro gb309 hg w51 hbox hb
     replace HO261 := As.mk (Kd.R_below (by (with_reducible repeat (first | apply Kd.R_alloc | apply Kd.R_drewN | apply Kd.R_drew)); exact HO261.out) hb)
     replace HO264 := As.mk (Kd.R_below (by (with_reducible repeat (first | apply Kd.R_alloc | apply Kd.R_drewN | apply Kd.R_drew)); exact HO264.out) hb)
     replace HO267 := As.mk (Kd.R_below (by (with_reducible repeat (first | apply Kd.R_alloc | apply Kd.R_drewN | apply Kd.R_drew)); exact HO267.out) hb)
     replace HO274 := As.mk (Kd.R_below (by (with_reducible repeat (first | apply Kd.R_alloc | apply Kd.R_drewN | apply Kd.R_drew)); exact HO274.out) hb)
     replace HO277 := As.mk (Kd.R_below (by (with_reducible repeat (first | apply Kd.R_alloc | apply Kd.R_drewN | apply Kd.R_drew)); exact HO277.out) hb)
     replace HO280 := As.mk (Kd.R_below (by (with_reducible repeat (first | apply Kd.R_alloc | apply Kd.R_drewN | apply Kd.R_drew)); exact HO280.out) hb)
     replace HO286 := As.mk (Kd.R_below (by (with_reducible repeat (first | apply Kd.R_alloc | apply Kd.R_drewN | apply Kd.R_drew)); exact HO286.out) hb)
     replace HO289 := As.mk (Kd.R_below (by (with_reducible repeat (first | apply Kd.R_alloc | apply Kd.R_drewN | apply Kd.R_drew)); exact HO289.out) hb)
     replace HO292 := As.mk (Kd.R_below (by (with_reducible repeat (first | apply Kd.R_alloc | apply Kd.R_drewN | apply Kd.R_drew)); exact HO292.out) hb)
     have BK309 := As.mk (hbox)
     have GW309 := As.mk (gs w hg)
     have GE309 := As.mk (gs w hg)
     replace HB := As.mk (below_step (be w) hb)
     have NB256_309 := As.mk (nl hg (bx BK256.out))
     have NB309_256 := As.mk (ng hg (bx BK256.out))
     replace BK256 := As.mk (blk_below (bx BK256.out) hb)
     have NB257_309 := As.mk (nl hg (bx BK257.out))
     have NB309_257 := As.mk (ng hg (bx BK257.out))
     replace BK257 := As.mk (blk_below (bx BK257.out) hb)
     have NB283_309 := As.mk (nl hg (bx BK283.out))
     have NB309_283 := As.mk (ng hg (bx BK283.out))
     replace BK283 := As.mk (blk_below (bx BK283.out) hb)
     have NB295_309 := As.mk (nl hg (bx BK295.out))
     have NB309_295 := As.mk (ng hg (bx BK295.out))
     replace BK295 := As.mk (blk_below (bx BK295.out) hb)
     clear hb hbox hg
     refine hK.out _ _ ⟨(blk_cell BK295.out 0).trans rfl, (blk_cell BK295.out 1).trans rfl, (blk_cell BK295.out 2).trans rfl, (blk_cell BK295.out 3).trans rfl, (blk_cell BK295.out 4).trans rfl, (blk_cell BK257.out 0).trans rfl, (blk_cell BK257.out 1).trans rfl⟩ (fun hHeld => ?_)
     clear hK K
     refine norm_ (a' := ?_) ?_ ?_
     rotate_left
     ·
      show Act.put _ (some 10) _ = _
      simp only [pk, i64_w, i32_w]
      rfl
     refine one_ (i := 2) (N := some 30) #[I, I, I, I, O, I, O] rfl rfl (by kernel_rfl) (by decide) (fun K hK => ?_)
     refine goes_ Try.func26 (by kernel_rfl) rfl #[.agg #[.int .i64 a1_0, .int .i64 a1_1]] (by rfl) rfl rfl (by (try simp only [lm]); first | done | rfl | (simp only [List.length_drop, List.length_take]; rfl)) ?_
     with_reducible refine (laws_toValue.calls a1_0 a1_1 t296 t297 _ A16.out).mono ?_
     rintro e w52 ⟨rfl, hb⟩
     refine ⟨_, rfl, ?_⟩
     replace HO261 := As.mk (Kd.R_below (by (with_reducible repeat (first | apply Kd.R_alloc | apply Kd.R_drewN | apply Kd.R_drew)); exact HO261.out) hb)
     replace HO264 := As.mk (Kd.R_below (by (with_reducible repeat (first | apply Kd.R_alloc | apply Kd.R_drewN | apply Kd.R_drew)); exact HO264.out) hb)
     replace HO267 := As.mk (Kd.R_below (by (with_reducible repeat (first | apply Kd.R_alloc | apply Kd.R_drewN | apply Kd.R_drew)); exact HO267.out) hb)
     replace HO274 := As.mk (Kd.R_below (by (with_reducible repeat (first | apply Kd.R_alloc | apply Kd.R_drewN | apply Kd.R_drew)); exact HO274.out) hb)
     replace HO277 := As.mk (Kd.R_below (by (with_reducible repeat (first | apply Kd.R_alloc | apply Kd.R_drewN | apply Kd.R_drew)); exact HO277.out) hb)
     replace HO280 := As.mk (Kd.R_below (by (with_reducible repeat (first | apply Kd.R_alloc | apply Kd.R_drewN | apply Kd.R_drew)); exact HO280.out) hb)
     replace HO286 := As.mk (Kd.R_below (by (with_reducible repeat (first | apply Kd.R_alloc | apply Kd.R_drewN | apply Kd.R_drew)); exact HO286.out) hb)
     replace HO289 := As.mk (Kd.R_below (by (with_reducible repeat (first | apply Kd.R_alloc | apply Kd.R_drewN | apply Kd.R_drew)); exact HO289.out) hb)
     replace HO292 := As.mk (Kd.R_below (by (with_reducible repeat (first | apply Kd.R_alloc | apply Kd.R_drewN | apply Kd.R_drew)); exact HO292.out) hb)
     replace BK256 := As.mk (blk_below (bx BK256.out) hb)
     replace BK257 := As.mk (blk_below (bx BK257.out) hb)
     replace BK283 := As.mk (blk_below (bx BK283.out) hb)
     replace BK295 := As.mk (blk_below (bx BK295.out) hb)
     replace BK309 := As.mk (blk_below (bx BK309.out) hb)
     replace HB := As.mk (below_step (be w) hb)
     (try clear hb)
     (try clear hb2)
     (try clear hk)
     (try clear hi)
     refine hK.out _ _ ⟨(blk_cell BK295.out 0).trans rfl, (blk_cell BK295.out 1).trans rfl, (blk_cell BK295.out 2).trans rfl, (blk_cell BK295.out 3).trans rfl, (blk_cell BK295.out 4).trans rfl, (blk_cell BK257.out 0).trans rfl, (blk_cell BK257.out 1).trans rfl⟩ (fun hHeld => ?_)
     clear hK K
     refine norm_ (a' := ?_) ?_ ?_
     rotate_left
     ·
      show Act.put _ (some 30) _ = _
      simp only [pk, i64_w, i32_w]
      rfl
     refine one_ (i := 4) (N := some 32) #[I, I, I, I, I, I, O] rfl rfl (by kernel_rfl) (by decide) (fun K hK => ?_)
     refine goes_ Try.func21 (by kernel_rfl) rfl #[.agg #[.slice Ao42 t284.length co42, .slice Ao47 t287.length co47, .slice Ao48 t290.length co48, .int .i64 t293, .int .i64 t294], .agg #[.int .i64 t296, .int .i64 t297], .int .i64 a2] (by rfl) rfl rfl (by (try simp only [lm]); first | done | rfl | (simp only [List.length_drop, List.length_take]; rfl)) ?_
     with_reducible refine (impl_Written.calls _ _ t284 _ _ t287 _ _ t290 t293 t294 t296 t297 a2 t298 t301 t304 t307 t308 _ ?side1 ?side2 ?side3 ?side4 ?side5 ?side6 A17.out).mono ?_
     (case side1 => repeat (first | exact (Kd.R_reads' HO286.out).2.2 | (with_reducible refine Kd.C_alloc ?_ _) | (with_reducible refine Kd.C_drewN ?_ _) | (with_reducible refine Kd.C_drew ?_)))
     (case side2 => exact (Kd.R_reads' HO286.out).2.1)
     (case side3 => repeat (first | exact (Kd.R_reads' HO289.out).2.2 | (with_reducible refine Kd.C_alloc ?_ _) | (with_reducible refine Kd.C_drewN ?_ _) | (with_reducible refine Kd.C_drew ?_)))
     (case side4 => exact (Kd.R_reads' HO289.out).2.1)
     (case side5 => repeat (first | exact (Kd.R_reads' HO292.out).2.2 | (with_reducible refine Kd.C_alloc ?_ _) | (with_reducible refine Kd.C_drewN ?_ _) | (with_reducible refine Kd.C_drew ?_)))
     (case side6 => exact (Kd.R_reads' HO292.out).2.1)
     rintro e w53 ⟨v299, v302, v305, rfl, ho0, ho1, ho2, hb⟩
     refine ⟨_, rfl, ?_⟩
     have HO300 := As.mk (Kd.R_lower (Kd.R_new' (Kd.R_new' (Kd.R_new' ho0 (Kd.R_lt (by (with_reducible repeat (first | apply Kd.R_alloc | apply Kd.R_drewN | apply Kd.R_drew)); exact HO261.out))) (Kd.R_lt (by (with_reducible repeat (first | apply Kd.R_alloc | apply Kd.R_drewN | apply Kd.R_drew)); exact HO274.out))) (Kd.R_lt (by (with_reducible repeat (first | apply Kd.R_alloc | apply Kd.R_drewN | apply Kd.R_drew)); exact HO286.out))) (below_size (be w)))
     replace HO261 := As.mk (Kd.R_elder' (by (with_reducible repeat (first | apply Kd.R_alloc | apply Kd.R_drewN | apply Kd.R_drew)); exact HO261.out) (Kd.R_base ho0) hb)
     replace HO274 := As.mk (Kd.R_elder' (by (with_reducible repeat (first | apply Kd.R_alloc | apply Kd.R_drewN | apply Kd.R_drew)); exact HO274.out) (Kd.R_base ho0) hb)
     replace HO286 := As.mk (Kd.R_elder' (by (with_reducible repeat (first | apply Kd.R_alloc | apply Kd.R_drewN | apply Kd.R_drew)); exact HO286.out) (Kd.R_base ho0) hb)
     have HO303 := As.mk (Kd.R_lower (Kd.R_new' (Kd.R_new' (Kd.R_new' (Kd.R_new' (Kd.R_new' (Kd.R_new' ho1 (Kd.R_lt (by (with_reducible repeat (first | apply Kd.R_alloc | apply Kd.R_drewN | apply Kd.R_drew)); exact HO264.out))) (Kd.R_lt (by (with_reducible repeat (first | apply Kd.R_alloc | apply Kd.R_drewN | apply Kd.R_drew)); exact HO267.out))) (Kd.R_lt (by (with_reducible repeat (first | apply Kd.R_alloc | apply Kd.R_drewN | apply Kd.R_drew)); exact HO277.out))) (Kd.R_lt (by (with_reducible repeat (first | apply Kd.R_alloc | apply Kd.R_drewN | apply Kd.R_drew)); exact HO280.out))) (Kd.R_lt (by (with_reducible repeat (first | apply Kd.R_alloc | apply Kd.R_drewN | apply Kd.R_drew)); exact HO289.out))) (Kd.R_lt (by (with_reducible repeat (first | apply Kd.R_alloc | apply Kd.R_drewN | apply Kd.R_drew)); exact HO292.out))) (below_size (be w)))
     have HO306 := As.mk (Kd.R_lower (Kd.R_new' (Kd.R_new' (Kd.R_new' (Kd.R_new' (Kd.R_new' (Kd.R_new' ho2 (Kd.R_lt (by (with_reducible repeat (first | apply Kd.R_alloc | apply Kd.R_drewN | apply Kd.R_drew)); exact HO264.out))) (Kd.R_lt (by (with_reducible repeat (first | apply Kd.R_alloc | apply Kd.R_drewN | apply Kd.R_drew)); exact HO267.out))) (Kd.R_lt (by (with_reducible repeat (first | apply Kd.R_alloc | apply Kd.R_drewN | apply Kd.R_drew)); exact HO277.out))) (Kd.R_lt (by (with_reducible repeat (first | apply Kd.R_alloc | apply Kd.R_drewN | apply Kd.R_drew)); exact HO280.out))) (Kd.R_lt (by (with_reducible repeat (first | apply Kd.R_alloc | apply Kd.R_drewN | apply Kd.R_drew)); exact HO289.out))) (Kd.R_lt (by (with_reducible repeat (first | apply Kd.R_alloc | apply Kd.R_drewN | apply Kd.R_drew)); exact HO292.out))) (below_size (be w)))
     replace HO264 := As.mk (Kd.R_mono (Kd.R_told (Kd.R_told (Kd.R_old (by (with_reducible repeat (first | apply Kd.R_alloc | apply Kd.R_drewN | apply Kd.R_drew)); exact HO264.out) hb) (Kd.R_base ho1)) (Kd.R_base ho2)) (fun _ h_ => h_.1))
     replace HO267 := As.mk (Kd.R_mono (Kd.R_told (Kd.R_told (Kd.R_old (by (with_reducible repeat (first | apply Kd.R_alloc | apply Kd.R_drewN | apply Kd.R_drew)); exact HO267.out) hb) (Kd.R_base ho1)) (Kd.R_base ho2)) (fun _ h_ => h_.1))
     replace HO277 := As.mk (Kd.R_mono (Kd.R_told (Kd.R_told (Kd.R_old (by (with_reducible repeat (first | apply Kd.R_alloc | apply Kd.R_drewN | apply Kd.R_drew)); exact HO277.out) hb) (Kd.R_base ho1)) (Kd.R_base ho2)) (fun _ h_ => h_.1))
     replace HO280 := As.mk (Kd.R_mono (Kd.R_told (Kd.R_told (Kd.R_old (by (with_reducible repeat (first | apply Kd.R_alloc | apply Kd.R_drewN | apply Kd.R_drew)); exact HO280.out) hb) (Kd.R_base ho1)) (Kd.R_base ho2)) (fun _ h_ => h_.1))
     replace HO289 := As.mk (Kd.R_mono (Kd.R_told (Kd.R_told (Kd.R_old (by (with_reducible repeat (first | apply Kd.R_alloc | apply Kd.R_drewN | apply Kd.R_drew)); exact HO289.out) hb) (Kd.R_base ho1)) (Kd.R_base ho2)) (fun _ h_ => h_.1))
     replace HO292 := As.mk (Kd.R_mono (Kd.R_told (Kd.R_told (Kd.R_old (by (with_reducible repeat (first | apply Kd.R_alloc | apply Kd.R_drewN | apply Kd.R_drew)); exact HO292.out) hb) (Kd.R_base ho1)) (Kd.R_base ho2)) (fun _ h_ => h_.1))
     replace BK256 := As.mk (blk_below (bx BK256.out) hb)
     replace BK257 := As.mk (blk_below (bx BK257.out) hb)
     replace BK283 := As.mk (blk_below (bx BK283.out) hb)
     replace BK295 := As.mk (blk_below (bx BK295.out) hb)
     replace BK309 := As.mk (blk_below (bx BK309.out) hb)
     replace HB := As.mk (below_step (be w) hb)
     (try clear hb)
     (try clear hb2)
     (try clear hk)
     (try clear hi)
     (try clear ho0)
     (try clear ho1)
     (try clear ho2)
     refine hK.out _ _ ⟨(blk_cell BK295.out 0).trans rfl, (blk_cell BK295.out 1).trans rfl, (blk_cell BK295.out 2).trans rfl, (blk_cell BK295.out 3).trans rfl, (blk_cell BK295.out 4).trans rfl, (blk_cell BK257.out 0).trans rfl, (blk_cell BK257.out 1).trans rfl⟩ (fun hHeld => ?_)
     clear hK K
     refine norm_ (a' := ?_) ?_ ?_
     rotate_left
     ·
      show Act.put _ (some 32) _ = _
      simp only [pk, i64_w, i32_w]
      rfl
     exact norm_ (by simp only [putAll, Act.put, List.setIfInBounds_toArray, List.set_cons_zero, List.set_cons_succ]) (hCont (v299, v302, v305, gb309) _ ⟨hHeld, (by (with_reducible repeat (first | apply Kd.R_alloc | apply Kd.R_drewN | apply Kd.R_drew)); exact Kd.R_mono HO261.out (fun _ hk => ⟨hk.1.1, ⟨hk.1.2, hk.2⟩⟩)), (by (with_reducible repeat (first | apply Kd.R_alloc | apply Kd.R_drewN | apply Kd.R_drew)); exact Kd.R_mono HO264.out (fun _ hk => ⟨hk.1.1.1, ⟨hk.1.1.2.1, ⟨hk.1.1.2.2.1, ⟨hk.1.1.2.2.2.1, ⟨hk.1.1.2.2.2.2, ⟨hk.1.2, hk.2⟩⟩⟩⟩⟩⟩)), (by (with_reducible repeat (first | apply Kd.R_alloc | apply Kd.R_drewN | apply Kd.R_drew)); exact Kd.R_mono HO267.out (fun _ hk => ⟨hk.1.1.1, ⟨hk.1.1.2.1, ⟨hk.1.1.2.2.1, ⟨hk.1.1.2.2.2.1, ⟨hk.1.1.2.2.2.2, ⟨hk.1.2, hk.2⟩⟩⟩⟩⟩⟩)), (by (with_reducible repeat (first | apply Kd.R_alloc | apply Kd.R_drewN | apply Kd.R_drew)); exact Kd.R_mono HO274.out (fun _ hk => ⟨hk.1.1, ⟨hk.1.2, hk.2⟩⟩)), (by (with_reducible repeat (first | apply Kd.R_alloc | apply Kd.R_drewN | apply Kd.R_drew)); exact Kd.R_mono HO277.out (fun _ hk => ⟨hk.1.1.1, ⟨hk.1.1.2.1, ⟨hk.1.1.2.2.1, ⟨hk.1.1.2.2.2.1, ⟨hk.1.1.2.2.2.2, ⟨hk.1.2, hk.2⟩⟩⟩⟩⟩⟩)), (by (with_reducible repeat (first | apply Kd.R_alloc | apply Kd.R_drewN | apply Kd.R_drew)); exact Kd.R_mono HO280.out (fun _ hk => ⟨hk.1.1.1, ⟨hk.1.1.2.1, ⟨hk.1.1.2.2.1, ⟨hk.1.1.2.2.2.1, ⟨hk.1.1.2.2.2.2, ⟨hk.1.2, hk.2⟩⟩⟩⟩⟩⟩)), (by (with_reducible repeat (first | apply Kd.R_alloc | apply Kd.R_drewN | apply Kd.R_drew)); exact Kd.R_mono HO286.out (fun _ hk => ⟨hk.1.1, ⟨hk.1.2, hk.2⟩⟩)), (by (with_reducible repeat (first | apply Kd.R_alloc | apply Kd.R_drewN | apply Kd.R_drew)); exact Kd.R_mono HO289.out (fun _ hk => ⟨hk.1.1.1, ⟨hk.1.1.2.1, ⟨hk.1.1.2.2.1, ⟨hk.1.1.2.2.2.1, ⟨hk.1.1.2.2.2.2, ⟨hk.1.2, hk.2⟩⟩⟩⟩⟩⟩)), (by (with_reducible repeat (first | apply Kd.R_alloc | apply Kd.R_drewN | apply Kd.R_drew)); exact Kd.R_mono HO292.out (fun _ hk => ⟨hk.1.1.1, ⟨hk.1.1.2.1, ⟨hk.1.1.2.2.1, ⟨hk.1.1.2.2.2.1, ⟨hk.1.1.2.2.2.2, ⟨hk.1.2, hk.2⟩⟩⟩⟩⟩⟩)), (by (with_reducible repeat (first | apply Kd.R_alloc | apply Kd.R_drewN | apply Kd.R_drew)); exact Kd.R_mono HO300.out (fun _ hk => ⟨hk.1.1.2, ⟨hk.1.2, hk.2⟩⟩)), (by (with_reducible repeat (first | apply Kd.R_alloc | apply Kd.R_drewN | apply Kd.R_drew)); exact Kd.R_mono HO303.out (fun _ hk => ⟨hk.1.1.1.1.1.2, ⟨hk.1.1.1.1.2, ⟨hk.1.1.1.2, ⟨hk.1.1.2, ⟨hk.1.2, ⟨hk.2, hk.1.1.1.1.1.1⟩⟩⟩⟩⟩⟩)), (by (with_reducible repeat (first | apply Kd.R_alloc | apply Kd.R_drewN | apply Kd.R_drew)); exact Kd.R_mono HO306.out (fun _ hk => ⟨hk.1.1.1.1.1.2, ⟨hk.1.1.1.1.2, ⟨hk.1.1.1.2, ⟨hk.1.1.2, ⟨hk.1.2, ⟨hk.2, hk.1.1.1.1.1.1⟩⟩⟩⟩⟩⟩)), (bx BK256.out), (bx BK257.out), (bx BK283.out), (bx BK295.out), (bx BK309.out), GW309.out, GE309.out, NB256_309.out, NB309_256.out, NB257_309.out, NB309_257.out, NB283_309.out, NB309_283.out, NB295_309.out, NB309_295.out, (be w)⟩)
   rintro ⟨v299, v302, v305, gb309⟩ w54 ⟨hS_, h0_, h1_, h2_, h3_, h4_, h5_, h6_, h7_, h8_, h9_, h10_, h11_, h12_, h13_, h14_, h15_, h16_, h17_, h18_, h19_, h20_, h21_, h22_, h23_, h24_, h25_, h26_, h27_⟩
   have n0_ : As (Kd.R k93 93 w54 w.heap.size (fun k_ => some k_ ≠ (.slice Ao29 t272.length co29 : Value).ownBlock ∧ some k_ ≠ (.slice Ao42 t284.length co42 : Value).ownBlock ∧ some k_ ≠ (v299 : Value).ownBlock) v260 t259) := ⟨h0_⟩
   have n1_ : As (Kd.R (Kd.int .i64) 3 w54 w.heap.size (fun k_ => some k_ ≠ (v266 : Value).ownBlock ∧ some k_ ≠ (.slice Ao31 t275.length co31 : Value).ownBlock ∧ some k_ ≠ (.slice Ao33 t278.length co33 : Value).ownBlock ∧ some k_ ≠ (.slice Ao47 t287.length co47 : Value).ownBlock ∧ some k_ ≠ (.slice Ao48 t290.length co48 : Value).ownBlock ∧ some k_ ≠ (v302 : Value).ownBlock ∧ some k_ ≠ (v305 : Value).ownBlock) v263 t262) := ⟨h1_⟩
   have n2_ : As (Kd.R (Kd.int .i64) 3 w54 w.heap.size (fun k_ => some k_ ≠ (v263 : Value).ownBlock ∧ some k_ ≠ (.slice Ao31 t275.length co31 : Value).ownBlock ∧ some k_ ≠ (.slice Ao33 t278.length co33 : Value).ownBlock ∧ some k_ ≠ (.slice Ao47 t287.length co47 : Value).ownBlock ∧ some k_ ≠ (.slice Ao48 t290.length co48 : Value).ownBlock ∧ some k_ ≠ (v302 : Value).ownBlock ∧ some k_ ≠ (v305 : Value).ownBlock) v266 t265) := ⟨h2_⟩
   have n3_ : As (Kd.R k93 93 w54 w.heap.size (fun k_ => some k_ ≠ (v260 : Value).ownBlock ∧ some k_ ≠ (.slice Ao42 t284.length co42 : Value).ownBlock ∧ some k_ ≠ (v299 : Value).ownBlock) (.slice Ao29 t272.length co29) t272) := ⟨h3_⟩
   have n4_ : As (Kd.R (Kd.int .i64) 3 w54 w.heap.size (fun k_ => some k_ ≠ (v263 : Value).ownBlock ∧ some k_ ≠ (v266 : Value).ownBlock ∧ some k_ ≠ (.slice Ao33 t278.length co33 : Value).ownBlock ∧ some k_ ≠ (.slice Ao47 t287.length co47 : Value).ownBlock ∧ some k_ ≠ (.slice Ao48 t290.length co48 : Value).ownBlock ∧ some k_ ≠ (v302 : Value).ownBlock ∧ some k_ ≠ (v305 : Value).ownBlock) (.slice Ao31 t275.length co31) t275) := ⟨h4_⟩
   have n5_ : As (Kd.R (Kd.int .i64) 3 w54 w.heap.size (fun k_ => some k_ ≠ (v263 : Value).ownBlock ∧ some k_ ≠ (v266 : Value).ownBlock ∧ some k_ ≠ (.slice Ao31 t275.length co31 : Value).ownBlock ∧ some k_ ≠ (.slice Ao47 t287.length co47 : Value).ownBlock ∧ some k_ ≠ (.slice Ao48 t290.length co48 : Value).ownBlock ∧ some k_ ≠ (v302 : Value).ownBlock ∧ some k_ ≠ (v305 : Value).ownBlock) (.slice Ao33 t278.length co33) t278) := ⟨h5_⟩
   have n6_ : As (Kd.R k93 93 w54 w.heap.size (fun k_ => some k_ ≠ (v260 : Value).ownBlock ∧ some k_ ≠ (.slice Ao29 t272.length co29 : Value).ownBlock ∧ some k_ ≠ (v299 : Value).ownBlock) (.slice Ao42 t284.length co42) t284) := ⟨h6_⟩
   have n7_ : As (Kd.R (Kd.int .i64) 3 w54 w.heap.size (fun k_ => some k_ ≠ (v263 : Value).ownBlock ∧ some k_ ≠ (v266 : Value).ownBlock ∧ some k_ ≠ (.slice Ao31 t275.length co31 : Value).ownBlock ∧ some k_ ≠ (.slice Ao33 t278.length co33 : Value).ownBlock ∧ some k_ ≠ (.slice Ao48 t290.length co48 : Value).ownBlock ∧ some k_ ≠ (v302 : Value).ownBlock ∧ some k_ ≠ (v305 : Value).ownBlock) (.slice Ao47 t287.length co47) t287) := ⟨h7_⟩
   have n8_ : As (Kd.R (Kd.int .i64) 3 w54 w.heap.size (fun k_ => some k_ ≠ (v263 : Value).ownBlock ∧ some k_ ≠ (v266 : Value).ownBlock ∧ some k_ ≠ (.slice Ao31 t275.length co31 : Value).ownBlock ∧ some k_ ≠ (.slice Ao33 t278.length co33 : Value).ownBlock ∧ some k_ ≠ (.slice Ao47 t287.length co47 : Value).ownBlock ∧ some k_ ≠ (v302 : Value).ownBlock ∧ some k_ ≠ (v305 : Value).ownBlock) (.slice Ao48 t290.length co48) t290) := ⟨h8_⟩
   have n9_ : As (Kd.R k93 93 w54 w.heap.size (fun k_ => some k_ ≠ (v260 : Value).ownBlock ∧ some k_ ≠ (.slice Ao29 t272.length co29 : Value).ownBlock ∧ some k_ ≠ (.slice Ao42 t284.length co42 : Value).ownBlock) v299 t298) := ⟨h9_⟩
   have n10_ : As (Kd.R (Kd.int .i64) 3 w54 w.heap.size (fun k_ => some k_ ≠ (v263 : Value).ownBlock ∧ some k_ ≠ (v266 : Value).ownBlock ∧ some k_ ≠ (.slice Ao31 t275.length co31 : Value).ownBlock ∧ some k_ ≠ (.slice Ao33 t278.length co33 : Value).ownBlock ∧ some k_ ≠ (.slice Ao47 t287.length co47 : Value).ownBlock ∧ some k_ ≠ (.slice Ao48 t290.length co48 : Value).ownBlock ∧ some k_ ≠ (v305 : Value).ownBlock) v302 t301) := ⟨h10_⟩
   have n11_ : As (Kd.R (Kd.int .i64) 3 w54 w.heap.size (fun k_ => some k_ ≠ (v263 : Value).ownBlock ∧ some k_ ≠ (v266 : Value).ownBlock ∧ some k_ ≠ (.slice Ao31 t275.length co31 : Value).ownBlock ∧ some k_ ≠ (.slice Ao33 t278.length co33 : Value).ownBlock ∧ some k_ ≠ (.slice Ao47 t287.length co47 : Value).ownBlock ∧ some k_ ≠ (.slice Ao48 t290.length co48 : Value).ownBlock ∧ some k_ ≠ (v302 : Value).ownBlock) v305 t304) := ⟨h11_⟩
   have n12_ : As (w54.heap[gb256]? = some (.cells #[.slice A0_0 l0_0.length c0_0, .slice A0_1 l0_1.length c0_1, .slice A0_2 l0_2.length c0_2, .int .i64 a0_3, .int .i64 a0_4] 47 (0, 0))) := ⟨h12_⟩
   have n13_ : As (w54.heap[gb257]? = some (.cells #[.int .i64 a1_0, .int .i64 a1_1] 48 (0, 0))) := ⟨h13_⟩
   have n14_ : As (w54.heap[gb283]? = some (.cells #[.slice Ao29 t272.length co29, .slice Ao31 t275.length co31, .slice Ao33 t278.length co33, .int .i64 t281, .int .i64 t282] 34 (0, 0))) := ⟨h14_⟩
   have n15_ : As (w54.heap[gb295]? = some (.cells #[.slice Ao42 t284.length co42, .slice Ao47 t287.length co47, .slice Ao48 t290.length co48, .int .i64 t293, .int .i64 t294] 34 (0, 0))) := ⟨h15_⟩
   have n16_ : As (w54.heap[gb309]? = some (.cells #[.slice none 0 0, .slice none 0 0, .slice none 0 0, .int .i64 0, .int .i64 0] 34 (0, 0))) := ⟨h16_⟩
   have n17_ : As (w.heap.size ≤ gb309) := ⟨h17_⟩
   have n18_ : As (w.heap.size ≤ gb309) := ⟨h18_⟩
   have n19_ : As (gb256 ≠ gb309) := ⟨h19_⟩
   have n20_ : As (gb309 ≠ gb256) := ⟨h20_⟩
   have n21_ : As (gb257 ≠ gb309) := ⟨h21_⟩
   have n22_ : As (gb309 ≠ gb257) := ⟨h22_⟩
   have n23_ : As (gb283 ≠ gb309) := ⟨h23_⟩
   have n24_ : As (gb309 ≠ gb283) := ⟨h24_⟩
   have n25_ : As (gb295 ≠ gb309) := ⟨h25_⟩
   have n26_ : As (gb309 ≠ gb295) := ⟨h26_⟩
   have n27_ : As (Below w.heap.size w w54) := ⟨h27_⟩
   clear HO261
   clear HO264
   clear HO267
   clear HO274
   clear HO277
   clear HO280
   clear HO286
   clear HO289
   clear HO292
   clear BK256
   clear BK257
   clear BK283
   clear BK295
   clear HB
   clear h0_ h1_ h2_ h3_ h4_ h5_ h6_ h7_ h8_ h9_ h10_ h11_ h12_ h13_ h14_ h15_ h16_ h17_ h18_ h19_ h20_ h21_ h22_ h23_ h24_ h25_ h26_ h27_
   have HO261 := n0_
   have HO264 := n1_
   have HO267 := n2_
   have HO274 := n3_
   have HO277 := n4_
   have HO280 := n5_
   have HO286 := n6_
   have HO289 := n7_
   have HO292 := n8_
   have HO300 := n9_
   have HO303 := n10_
   have HO306 := n11_
   have BK256 := n12_
   have BK257 := n13_
   have BK283 := n14_
   have BK295 := n15_
   have BK309 := n16_
   have GW309 := n17_
   have GE309 := n18_
   have NB256_309 := n19_
   have NB309_256 := n20_
   have NB257_309 := n21_
   have NB309_257 := n22_
   have NB283_309 := n23_
   have NB309_283 := n24_
   have NB295_309 := n25_
   have NB309_295 := n26_
   have HB := n27_
   clear n0_ n1_ n2_ n3_ n4_ n5_ n6_ n7_ n8_ n9_ n10_ n11_ n12_ n13_ n14_ n15_ n16_ n17_ n18_ n19_ n20_ n21_ n22_ n23_ n24_ n25_ n26_ n27_
   have hHeld : w54.cell? ⟨gb295, 0, none⟩ = some (.slice Ao42 t284.length co42) ∧ w54.cell? ⟨gb295, 1, none⟩ = some (.slice Ao47 t287.length co47) ∧ w54.cell? ⟨gb295, 2, none⟩ = some (.slice Ao48 t290.length co48) ∧ w54.cell? ⟨gb295, 3, none⟩ = some (.int .i64 t293) ∧ w54.cell? ⟨gb295, 4, none⟩ = some (.int .i64 t294) ∧ w54.cell? ⟨gb257, 0, none⟩ = some (.int .i64 a1_0) ∧ w54.cell? ⟨gb257, 1, none⟩ = some (.int .i64 a1_1) := hS_
   obtain ⟨Ao55, co55, eo55⟩ := Kd.R_slice HO300.out
   (first | subst eo55 | (injection eo55 with f1_ f2_ f3_; have f4_ := f1_.symm; have f5_ := f3_.symm; clear f1_ f2_ f3_; subst f4_; subst f5_))
   obtain ⟨Ao57, co57, eo57⟩ := Kd.R_slice HO303.out
   (first | subst eo57 | (injection eo57 with f1_ f2_ f3_; have f4_ := f1_.symm; have f5_ := f3_.symm; clear f1_ f2_ f3_; subst f4_; subst f5_))
   obtain ⟨Ao59, co59, eo59⟩ := Kd.R_slice HO306.out
   (first | subst eo59 | (injection eo59 with f1_ f2_ f3_; have f4_ := f1_.symm; have f5_ := f3_.symm; clear f1_ f2_ f3_; subst f4_; subst f5_))
   refine norm_ (a' := ?_) ?_ ?_
   rotate_left
   ·
    simp only [putAll, Act.put, List.setIfInBounds_toArray, List.set_cons_zero, List.set_cons_succ]
    rfl
   refine one_ (i := 6) (N := none) #[I, I, I, I, I, I, I] rfl rfl (by kernel_rfl) (by decide) (fun K hK => ?_)
   have hs56 : w54.cell? ⟨gb309, 0, none⟩ = some (.slice none 0 0) := (blk_cell BK309.out 0).trans rfl
   have hfs56 := blk_frozen BK309.out 0
   have hns56_0 := NB256_309.out
   have hns56_1 := NB257_309.out
   have hns56_2 := NB283_309.out
   have hns56_3 := NB295_309.out
   have hms56_0 := NB309_256.out
   have hms56_1 := NB309_257.out
   have hms56_2 := NB309_283.out
   have hms56_3 := NB309_295.out
   have hs58 : w54.cell? ⟨gb309, 1, none⟩ = some (.slice none 0 0) := (blk_cell BK309.out 1).trans rfl
   have hfs58 := blk_frozen BK309.out 1
   have hns58_0 := NB256_309.out
   have hns58_1 := NB257_309.out
   have hns58_2 := NB283_309.out
   have hns58_3 := NB295_309.out
   have hms58_0 := NB309_256.out
   have hms58_1 := NB309_257.out
   have hms58_2 := NB309_283.out
   have hms58_3 := NB309_295.out
   have hs60 : w54.cell? ⟨gb309, 2, none⟩ = some (.slice none 0 0) := (blk_cell BK309.out 2).trans rfl
   have hfs60 := blk_frozen BK309.out 2
   have hns60_0 := NB256_309.out
   have hns60_1 := NB257_309.out
   have hns60_2 := NB283_309.out
   have hns60_3 := NB295_309.out
   have hms60_0 := NB309_256.out
   have hms60_1 := NB309_257.out
   have hms60_2 := NB309_283.out
   have hms60_3 := NB309_295.out
   have hs61 : w54.cell? ⟨gb309, 3, none⟩ = some (.int .i64 0) := (blk_cell BK309.out 3).trans rfl
   have hfs61 := blk_frozen BK309.out 3
   have hns61_0 := NB256_309.out
   have hns61_1 := NB257_309.out
   have hns61_2 := NB283_309.out
   have hns61_3 := NB295_309.out
   have hms61_0 := NB309_256.out
   have hms61_1 := NB309_257.out
   have hms61_2 := NB309_283.out
   have hms61_3 := NB309_295.out
   have hs62 : w54.cell? ⟨gb309, 4, none⟩ = some (.int .i64 0) := (blk_cell BK309.out 4).trans rfl
   have hfs62 := blk_frozen BK309.out 4
   have hns62_0 := NB256_309.out
   have hns62_1 := NB257_309.out
   have hns62_2 := NB283_309.out
   have hns62_3 := NB295_309.out
   have hms62_0 := NB309_256.out
   have hms62_1 := NB309_257.out
   have hms62_2 := NB309_283.out
   have hms62_3 := NB309_295.out
   refine skip_ (w1 := ?_) (by rfl) rfl ?_ ?_
   rotate_left
   ·
    go_simp
    rfl
   refine hK.out _ _ ⟨((cell_far (p := ⟨gb309, _, none⟩) NB295_309.out _).trans (((cell_far (p := ⟨gb309, _, none⟩) NB295_309.out _).trans (((cell_far (p := ⟨gb309, _, none⟩) NB295_309.out _).trans (((cell_far (p := ⟨gb309, _, none⟩) NB295_309.out _).trans (((cell_far (p := ⟨gb309, _, none⟩) NB295_309.out _).trans (hHeld.1)))))))))), ((cell_far (p := ⟨gb309, _, none⟩) NB295_309.out _).trans (((cell_far (p := ⟨gb309, _, none⟩) NB295_309.out _).trans (((cell_far (p := ⟨gb309, _, none⟩) NB295_309.out _).trans (((cell_far (p := ⟨gb309, _, none⟩) NB295_309.out _).trans (((cell_far (p := ⟨gb309, _, none⟩) NB295_309.out _).trans (hHeld.2.1)))))))))), ((cell_far (p := ⟨gb309, _, none⟩) NB295_309.out _).trans (((cell_far (p := ⟨gb309, _, none⟩) NB295_309.out _).trans (((cell_far (p := ⟨gb309, _, none⟩) NB295_309.out _).trans (((cell_far (p := ⟨gb309, _, none⟩) NB295_309.out _).trans (((cell_far (p := ⟨gb309, _, none⟩) NB295_309.out _).trans (hHeld.2.2.1)))))))))), ((cell_far (p := ⟨gb309, _, none⟩) NB295_309.out _).trans (((cell_far (p := ⟨gb309, _, none⟩) NB295_309.out _).trans (((cell_far (p := ⟨gb309, _, none⟩) NB295_309.out _).trans (((cell_far (p := ⟨gb309, _, none⟩) NB295_309.out _).trans (((cell_far (p := ⟨gb309, _, none⟩) NB295_309.out _).trans (hHeld.2.2.2.1)))))))))), ((cell_far (p := ⟨gb309, _, none⟩) NB295_309.out _).trans (((cell_far (p := ⟨gb309, _, none⟩) NB295_309.out _).trans (((cell_far (p := ⟨gb309, _, none⟩) NB295_309.out _).trans (((cell_far (p := ⟨gb309, _, none⟩) NB295_309.out _).trans (((cell_far (p := ⟨gb309, _, none⟩) NB295_309.out _).trans (hHeld.2.2.2.2.1)))))))))), ((cell_far (p := ⟨gb309, _, none⟩) NB257_309.out _).trans (((cell_far (p := ⟨gb309, _, none⟩) NB257_309.out _).trans (((cell_far (p := ⟨gb309, _, none⟩) NB257_309.out _).trans (((cell_far (p := ⟨gb309, _, none⟩) NB257_309.out _).trans (((cell_far (p := ⟨gb309, _, none⟩) NB257_309.out _).trans (hHeld.2.2.2.2.2.1)))))))))), ((cell_far (p := ⟨gb309, _, none⟩) NB257_309.out _).trans (((cell_far (p := ⟨gb309, _, none⟩) NB257_309.out _).trans (((cell_far (p := ⟨gb309, _, none⟩) NB257_309.out _).trans (((cell_far (p := ⟨gb309, _, none⟩) NB257_309.out _).trans (((cell_far (p := ⟨gb309, _, none⟩) NB257_309.out _).trans (hHeld.2.2.2.2.2.2))))))))))⟩ (fun hHeld => ?_)
   clear hK K
   refine done_ (by kernel_rfl) ?_
   have hnb63 := NB309_256.out
   have hnc63 := NB256_309.out
   have hnb64 := NB309_257.out
   have hnc64 := NB257_309.out
   have hnb65 := NB309_283.out
   have hnc65 := NB283_309.out
   have hnb66 := NB309_295.out
   have hnc66 := NB295_309.out
   obtain ⟨hcz67_0, hcz67_1, hcz67_2, hcz67_3, hcz67_4, hfz67_0, hfz67_1, hfz67_2, hfz67_3, hfz67_4⟩ := cl5 BK309.out
   have hnb68 := NB283_257.out
   have hnc68 := NB257_283.out
   obtain ⟨hcz69_0, hcz69_1, hcz69_2, hcz69_3, hcz69_4, hfz69_0, hfz69_1, hfz69_2, hfz69_3, hfz69_4⟩ := cl5 BK283.out
   go_upto_if 36 with (first | ((with_reducible refine gate_callee (f := 27) rfl ?_); refine goesL_ (some 35) rfl rfl Try.func27 (by kernel_rfl) rfl #[.agg #[.slice Ao55 t298.length co55, .slice Ao57 t301.length co57, .slice Ao59 t304.length co59, .int .i64 t307, .int .i64 t308], .agg #[.slice Ao29 t272.length co29, .slice Ao31 t275.length co31, .slice Ao33 t278.length co33, .int .i64 t281, .int .i64 t282]] rfl (by (try simp only [lm]); first | done | rfl | (simp only [List.length_drop, List.length_take]; rfl)) ?_; (with_reducible refine (laws_eqMemory.calls kj4 _ _ t298 _ _ t301 _ _ t304 t307 t308 _ _ t272 _ _ t275 _ _ t278 t281 t282 t310 _ ?side1 ?side2 ?side3 ?side4 ?side5 ?side6 ?side7 ?side8 ?side9 ?side10 ?side11 ?side12 A18.out).mono ?_); (case side1 => refine (Kd.R_reads' (e := 93) (base := w.heap.size) (ok := fun k_ => (some k_ ≠ (v260 : Value).ownBlock ∧ (some k_ ≠ (.slice Ao29 t272.length co29 : Value).ownBlock ∧ some k_ ≠ (.slice Ao42 t284.length co42 : Value).ownBlock))) (n := t298.length) (c := co55) ?_).2.2; exact (by (with_reducible repeat (first | apply Kd.R_alloc | apply Kd.R_drewN | apply Kd.R_drew)); exact (Kd.R_mono (Kd.R_far (p := ⟨gb309, 4, none⟩) (Kd.R_far (p := ⟨gb309, 3, none⟩) (Kd.R_far (p := ⟨gb309, 2, none⟩) (Kd.R_far (p := ⟨gb309, 1, none⟩) (Kd.R_far (p := ⟨gb309, 0, none⟩) (Kd.R_types HO300.out BK309.out (by decide)) (fun _ hk => hk.2) (.slice Ao55 t298.length co55)) (fun _ hk => hk.2) (.slice Ao57 t301.length co57)) (fun _ hk => hk.2) (.slice Ao59 t304.length co59)) (fun _ hk => hk.2) (.int .i64 t307)) (fun _ hk => hk.2) (.int .i64 t308)) (fun _ h_ => h_.1)))); (case side2 => exact (Kd.R_reads' HO300.out).2.1); (case side3 => refine (Kd.R_reads' (e := 3) (base := w.heap.size) (ok := fun k_ => (some k_ ≠ (v263 : Value).ownBlock ∧ (some k_ ≠ (v266 : Value).ownBlock ∧ (some k_ ≠ (.slice Ao31 t275.length co31 : Value).ownBlock ∧ (some k_ ≠ (.slice Ao33 t278.length co33 : Value).ownBlock ∧ (some k_ ≠ (.slice Ao47 t287.length co47 : Value).ownBlock ∧ (some k_ ≠ (.slice Ao48 t290.length co48 : Value).ownBlock ∧ some k_ ≠ (.slice Ao59 t304.length co59 : Value).ownBlock))))))) (n := t301.length) (c := co57) ?_).2.2; exact (by (with_reducible repeat (first | apply Kd.R_alloc | apply Kd.R_drewN | apply Kd.R_drew)); exact (Kd.R_mono (Kd.R_far (p := ⟨gb309, 4, none⟩) (Kd.R_far (p := ⟨gb309, 3, none⟩) (Kd.R_far (p := ⟨gb309, 2, none⟩) (Kd.R_far (p := ⟨gb309, 1, none⟩) (Kd.R_far (p := ⟨gb309, 0, none⟩) (Kd.R_types HO303.out BK309.out (by decide)) (fun _ hk => hk.2) (.slice Ao55 t298.length co55)) (fun _ hk => hk.2) (.slice Ao57 t301.length co57)) (fun _ hk => hk.2) (.slice Ao59 t304.length co59)) (fun _ hk => hk.2) (.int .i64 t307)) (fun _ hk => hk.2) (.int .i64 t308)) (fun _ h_ => h_.1)))); (case side4 => exact (Kd.R_reads' HO303.out).2.1); (case side5 => refine (Kd.R_reads' (e := 3) (base := w.heap.size) (ok := fun k_ => (some k_ ≠ (v263 : Value).ownBlock ∧ (some k_ ≠ (v266 : Value).ownBlock ∧ (some k_ ≠ (.slice Ao31 t275.length co31 : Value).ownBlock ∧ (some k_ ≠ (.slice Ao33 t278.length co33 : Value).ownBlock ∧ (some k_ ≠ (.slice Ao47 t287.length co47 : Value).ownBlock ∧ (some k_ ≠ (.slice Ao48 t290.length co48 : Value).ownBlock ∧ some k_ ≠ (.slice Ao57 t301.length co57 : Value).ownBlock))))))) (n := t304.length) (c := co59) ?_).2.2; exact (by (with_reducible repeat (first | apply Kd.R_alloc | apply Kd.R_drewN | apply Kd.R_drew)); exact (Kd.R_mono (Kd.R_far (p := ⟨gb309, 4, none⟩) (Kd.R_far (p := ⟨gb309, 3, none⟩) (Kd.R_far (p := ⟨gb309, 2, none⟩) (Kd.R_far (p := ⟨gb309, 1, none⟩) (Kd.R_far (p := ⟨gb309, 0, none⟩) (Kd.R_types HO306.out BK309.out (by decide)) (fun _ hk => hk.2) (.slice Ao55 t298.length co55)) (fun _ hk => hk.2) (.slice Ao57 t301.length co57)) (fun _ hk => hk.2) (.slice Ao59 t304.length co59)) (fun _ hk => hk.2) (.int .i64 t307)) (fun _ hk => hk.2) (.int .i64 t308)) (fun _ h_ => h_.1)))); (case side6 => exact (Kd.R_reads' HO306.out).2.1); (case side7 => refine (Kd.R_reads' (e := 93) (base := w.heap.size) (ok := fun k_ => (some k_ ≠ (v260 : Value).ownBlock ∧ (some k_ ≠ (.slice Ao42 t284.length co42 : Value).ownBlock ∧ some k_ ≠ (.slice Ao55 t298.length co55 : Value).ownBlock))) (n := t272.length) (c := co29) ?_).2.2; exact (by (with_reducible repeat (first | apply Kd.R_alloc | apply Kd.R_drewN | apply Kd.R_drew)); exact (Kd.R_mono (Kd.R_far (p := ⟨gb309, 4, none⟩) (Kd.R_far (p := ⟨gb309, 3, none⟩) (Kd.R_far (p := ⟨gb309, 2, none⟩) (Kd.R_far (p := ⟨gb309, 1, none⟩) (Kd.R_far (p := ⟨gb309, 0, none⟩) (Kd.R_types HO274.out BK309.out (by decide)) (fun _ hk => hk.2) (.slice Ao55 t298.length co55)) (fun _ hk => hk.2) (.slice Ao57 t301.length co57)) (fun _ hk => hk.2) (.slice Ao59 t304.length co59)) (fun _ hk => hk.2) (.int .i64 t307)) (fun _ hk => hk.2) (.int .i64 t308)) (fun _ h_ => h_.1)))); (case side8 => exact (Kd.R_reads' HO274.out).2.1); (case side9 => refine (Kd.R_reads' (e := 3) (base := w.heap.size) (ok := fun k_ => (some k_ ≠ (v263 : Value).ownBlock ∧ (some k_ ≠ (v266 : Value).ownBlock ∧ (some k_ ≠ (.slice Ao33 t278.length co33 : Value).ownBlock ∧ (some k_ ≠ (.slice Ao47 t287.length co47 : Value).ownBlock ∧ (some k_ ≠ (.slice Ao48 t290.length co48 : Value).ownBlock ∧ (some k_ ≠ (.slice Ao57 t301.length co57 : Value).ownBlock ∧ some k_ ≠ (.slice Ao59 t304.length co59 : Value).ownBlock))))))) (n := t275.length) (c := co31) ?_).2.2; exact (by (with_reducible repeat (first | apply Kd.R_alloc | apply Kd.R_drewN | apply Kd.R_drew)); exact (Kd.R_mono (Kd.R_far (p := ⟨gb309, 4, none⟩) (Kd.R_far (p := ⟨gb309, 3, none⟩) (Kd.R_far (p := ⟨gb309, 2, none⟩) (Kd.R_far (p := ⟨gb309, 1, none⟩) (Kd.R_far (p := ⟨gb309, 0, none⟩) (Kd.R_types HO277.out BK309.out (by decide)) (fun _ hk => hk.2) (.slice Ao55 t298.length co55)) (fun _ hk => hk.2) (.slice Ao57 t301.length co57)) (fun _ hk => hk.2) (.slice Ao59 t304.length co59)) (fun _ hk => hk.2) (.int .i64 t307)) (fun _ hk => hk.2) (.int .i64 t308)) (fun _ h_ => h_.1)))); (case side10 => exact (Kd.R_reads' HO277.out).2.1); (case side11 => refine (Kd.R_reads' (e := 3) (base := w.heap.size) (ok := fun k_ => (some k_ ≠ (v263 : Value).ownBlock ∧ (some k_ ≠ (v266 : Value).ownBlock ∧ (some k_ ≠ (.slice Ao31 t275.length co31 : Value).ownBlock ∧ (some k_ ≠ (.slice Ao47 t287.length co47 : Value).ownBlock ∧ (some k_ ≠ (.slice Ao48 t290.length co48 : Value).ownBlock ∧ (some k_ ≠ (.slice Ao57 t301.length co57 : Value).ownBlock ∧ some k_ ≠ (.slice Ao59 t304.length co59 : Value).ownBlock))))))) (n := t278.length) (c := co33) ?_).2.2; exact (by (with_reducible repeat (first | apply Kd.R_alloc | apply Kd.R_drewN | apply Kd.R_drew)); exact (Kd.R_mono (Kd.R_far (p := ⟨gb309, 4, none⟩) (Kd.R_far (p := ⟨gb309, 3, none⟩) (Kd.R_far (p := ⟨gb309, 2, none⟩) (Kd.R_far (p := ⟨gb309, 1, none⟩) (Kd.R_far (p := ⟨gb309, 0, none⟩) (Kd.R_types HO280.out BK309.out (by decide)) (fun _ hk => hk.2) (.slice Ao55 t298.length co55)) (fun _ hk => hk.2) (.slice Ao57 t301.length co57)) (fun _ hk => hk.2) (.slice Ao59 t304.length co59)) (fun _ hk => hk.2) (.int .i64 t307)) (fun _ hk => hk.2) (.int .i64 t308)) (fun _ h_ => h_.1)))); (case side12 => exact (Kd.R_reads' HO280.out).2.1); rintro e w70 ⟨rfl, hb⟩; refine ⟨_, rfl, ?_⟩; replace HO261 := As.mk (Kd.R_below (by (with_reducible repeat (first | apply Kd.R_alloc | apply Kd.R_drewN | apply Kd.R_drew)); exact (Kd.R_mono (Kd.R_far (p := ⟨gb309, 4, none⟩) (Kd.R_far (p := ⟨gb309, 3, none⟩) (Kd.R_far (p := ⟨gb309, 2, none⟩) (Kd.R_far (p := ⟨gb309, 1, none⟩) (Kd.R_far (p := ⟨gb309, 0, none⟩) (Kd.R_types HO261.out BK309.out (by decide)) (fun _ hk => hk.2) (.slice Ao55 t298.length co55)) (fun _ hk => hk.2) (.slice Ao57 t301.length co57)) (fun _ hk => hk.2) (.slice Ao59 t304.length co59)) (fun _ hk => hk.2) (.int .i64 t307)) (fun _ hk => hk.2) (.int .i64 t308)) (fun _ h_ => h_.1))) hb); replace HO264 := As.mk (Kd.R_below (by (with_reducible repeat (first | apply Kd.R_alloc | apply Kd.R_drewN | apply Kd.R_drew)); exact (Kd.R_mono (Kd.R_far (p := ⟨gb309, 4, none⟩) (Kd.R_far (p := ⟨gb309, 3, none⟩) (Kd.R_far (p := ⟨gb309, 2, none⟩) (Kd.R_far (p := ⟨gb309, 1, none⟩) (Kd.R_far (p := ⟨gb309, 0, none⟩) (Kd.R_types HO264.out BK309.out (by decide)) (fun _ hk => hk.2) (.slice Ao55 t298.length co55)) (fun _ hk => hk.2) (.slice Ao57 t301.length co57)) (fun _ hk => hk.2) (.slice Ao59 t304.length co59)) (fun _ hk => hk.2) (.int .i64 t307)) (fun _ hk => hk.2) (.int .i64 t308)) (fun _ h_ => h_.1))) hb); replace HO267 := As.mk (Kd.R_below (by (with_reducible repeat (first | apply Kd.R_alloc | apply Kd.R_drewN | apply Kd.R_drew)); exact (Kd.R_mono (Kd.R_far (p := ⟨gb309, 4, none⟩) (Kd.R_far (p := ⟨gb309, 3, none⟩) (Kd.R_far (p := ⟨gb309, 2, none⟩) (Kd.R_far (p := ⟨gb309, 1, none⟩) (Kd.R_far (p := ⟨gb309, 0, none⟩) (Kd.R_types HO267.out BK309.out (by decide)) (fun _ hk => hk.2) (.slice Ao55 t298.length co55)) (fun _ hk => hk.2) (.slice Ao57 t301.length co57)) (fun _ hk => hk.2) (.slice Ao59 t304.length co59)) (fun _ hk => hk.2) (.int .i64 t307)) (fun _ hk => hk.2) (.int .i64 t308)) (fun _ h_ => h_.1))) hb); replace HO274 := As.mk (Kd.R_below (by (with_reducible repeat (first | apply Kd.R_alloc | apply Kd.R_drewN | apply Kd.R_drew)); exact (Kd.R_mono (Kd.R_far (p := ⟨gb309, 4, none⟩) (Kd.R_far (p := ⟨gb309, 3, none⟩) (Kd.R_far (p := ⟨gb309, 2, none⟩) (Kd.R_far (p := ⟨gb309, 1, none⟩) (Kd.R_far (p := ⟨gb309, 0, none⟩) (Kd.R_types HO274.out BK309.out (by decide)) (fun _ hk => hk.2) (.slice Ao55 t298.length co55)) (fun _ hk => hk.2) (.slice Ao57 t301.length co57)) (fun _ hk => hk.2) (.slice Ao59 t304.length co59)) (fun _ hk => hk.2) (.int .i64 t307)) (fun _ hk => hk.2) (.int .i64 t308)) (fun _ h_ => h_.1))) hb); replace HO277 := As.mk (Kd.R_below (by (with_reducible repeat (first | apply Kd.R_alloc | apply Kd.R_drewN | apply Kd.R_drew)); exact (Kd.R_mono (Kd.R_far (p := ⟨gb309, 4, none⟩) (Kd.R_far (p := ⟨gb309, 3, none⟩) (Kd.R_far (p := ⟨gb309, 2, none⟩) (Kd.R_far (p := ⟨gb309, 1, none⟩) (Kd.R_far (p := ⟨gb309, 0, none⟩) (Kd.R_types HO277.out BK309.out (by decide)) (fun _ hk => hk.2) (.slice Ao55 t298.length co55)) (fun _ hk => hk.2) (.slice Ao57 t301.length co57)) (fun _ hk => hk.2) (.slice Ao59 t304.length co59)) (fun _ hk => hk.2) (.int .i64 t307)) (fun _ hk => hk.2) (.int .i64 t308)) (fun _ h_ => h_.1))) hb); replace HO280 := As.mk (Kd.R_below (by (with_reducible repeat (first | apply Kd.R_alloc | apply Kd.R_drewN | apply Kd.R_drew)); exact (Kd.R_mono (Kd.R_far (p := ⟨gb309, 4, none⟩) (Kd.R_far (p := ⟨gb309, 3, none⟩) (Kd.R_far (p := ⟨gb309, 2, none⟩) (Kd.R_far (p := ⟨gb309, 1, none⟩) (Kd.R_far (p := ⟨gb309, 0, none⟩) (Kd.R_types HO280.out BK309.out (by decide)) (fun _ hk => hk.2) (.slice Ao55 t298.length co55)) (fun _ hk => hk.2) (.slice Ao57 t301.length co57)) (fun _ hk => hk.2) (.slice Ao59 t304.length co59)) (fun _ hk => hk.2) (.int .i64 t307)) (fun _ hk => hk.2) (.int .i64 t308)) (fun _ h_ => h_.1))) hb); replace HO286 := As.mk (Kd.R_below (by (with_reducible repeat (first | apply Kd.R_alloc | apply Kd.R_drewN | apply Kd.R_drew)); exact (Kd.R_mono (Kd.R_far (p := ⟨gb309, 4, none⟩) (Kd.R_far (p := ⟨gb309, 3, none⟩) (Kd.R_far (p := ⟨gb309, 2, none⟩) (Kd.R_far (p := ⟨gb309, 1, none⟩) (Kd.R_far (p := ⟨gb309, 0, none⟩) (Kd.R_types HO286.out BK309.out (by decide)) (fun _ hk => hk.2) (.slice Ao55 t298.length co55)) (fun _ hk => hk.2) (.slice Ao57 t301.length co57)) (fun _ hk => hk.2) (.slice Ao59 t304.length co59)) (fun _ hk => hk.2) (.int .i64 t307)) (fun _ hk => hk.2) (.int .i64 t308)) (fun _ h_ => h_.1))) hb); replace HO289 := As.mk (Kd.R_below (by (with_reducible repeat (first | apply Kd.R_alloc | apply Kd.R_drewN | apply Kd.R_drew)); exact (Kd.R_mono (Kd.R_far (p := ⟨gb309, 4, none⟩) (Kd.R_far (p := ⟨gb309, 3, none⟩) (Kd.R_far (p := ⟨gb309, 2, none⟩) (Kd.R_far (p := ⟨gb309, 1, none⟩) (Kd.R_far (p := ⟨gb309, 0, none⟩) (Kd.R_types HO289.out BK309.out (by decide)) (fun _ hk => hk.2) (.slice Ao55 t298.length co55)) (fun _ hk => hk.2) (.slice Ao57 t301.length co57)) (fun _ hk => hk.2) (.slice Ao59 t304.length co59)) (fun _ hk => hk.2) (.int .i64 t307)) (fun _ hk => hk.2) (.int .i64 t308)) (fun _ h_ => h_.1))) hb); replace HO292 := As.mk (Kd.R_below (by (with_reducible repeat (first | apply Kd.R_alloc | apply Kd.R_drewN | apply Kd.R_drew)); exact (Kd.R_mono (Kd.R_far (p := ⟨gb309, 4, none⟩) (Kd.R_far (p := ⟨gb309, 3, none⟩) (Kd.R_far (p := ⟨gb309, 2, none⟩) (Kd.R_far (p := ⟨gb309, 1, none⟩) (Kd.R_far (p := ⟨gb309, 0, none⟩) (Kd.R_types HO292.out BK309.out (by decide)) (fun _ hk => hk.2) (.slice Ao55 t298.length co55)) (fun _ hk => hk.2) (.slice Ao57 t301.length co57)) (fun _ hk => hk.2) (.slice Ao59 t304.length co59)) (fun _ hk => hk.2) (.int .i64 t307)) (fun _ hk => hk.2) (.int .i64 t308)) (fun _ h_ => h_.1))) hb); replace HO300 := As.mk (Kd.R_below (by (with_reducible repeat (first | apply Kd.R_alloc | apply Kd.R_drewN | apply Kd.R_drew)); exact (Kd.R_mono (Kd.R_far (p := ⟨gb309, 4, none⟩) (Kd.R_far (p := ⟨gb309, 3, none⟩) (Kd.R_far (p := ⟨gb309, 2, none⟩) (Kd.R_far (p := ⟨gb309, 1, none⟩) (Kd.R_far (p := ⟨gb309, 0, none⟩) (Kd.R_types HO300.out BK309.out (by decide)) (fun _ hk => hk.2) (.slice Ao55 t298.length co55)) (fun _ hk => hk.2) (.slice Ao57 t301.length co57)) (fun _ hk => hk.2) (.slice Ao59 t304.length co59)) (fun _ hk => hk.2) (.int .i64 t307)) (fun _ hk => hk.2) (.int .i64 t308)) (fun _ h_ => h_.1))) hb); replace HO303 := As.mk (Kd.R_below (by (with_reducible repeat (first | apply Kd.R_alloc | apply Kd.R_drewN | apply Kd.R_drew)); exact (Kd.R_mono (Kd.R_far (p := ⟨gb309, 4, none⟩) (Kd.R_far (p := ⟨gb309, 3, none⟩) (Kd.R_far (p := ⟨gb309, 2, none⟩) (Kd.R_far (p := ⟨gb309, 1, none⟩) (Kd.R_far (p := ⟨gb309, 0, none⟩) (Kd.R_types HO303.out BK309.out (by decide)) (fun _ hk => hk.2) (.slice Ao55 t298.length co55)) (fun _ hk => hk.2) (.slice Ao57 t301.length co57)) (fun _ hk => hk.2) (.slice Ao59 t304.length co59)) (fun _ hk => hk.2) (.int .i64 t307)) (fun _ hk => hk.2) (.int .i64 t308)) (fun _ h_ => h_.1))) hb); replace HO306 := As.mk (Kd.R_below (by (with_reducible repeat (first | apply Kd.R_alloc | apply Kd.R_drewN | apply Kd.R_drew)); exact (Kd.R_mono (Kd.R_far (p := ⟨gb309, 4, none⟩) (Kd.R_far (p := ⟨gb309, 3, none⟩) (Kd.R_far (p := ⟨gb309, 2, none⟩) (Kd.R_far (p := ⟨gb309, 1, none⟩) (Kd.R_far (p := ⟨gb309, 0, none⟩) (Kd.R_types HO306.out BK309.out (by decide)) (fun _ hk => hk.2) (.slice Ao55 t298.length co55)) (fun _ hk => hk.2) (.slice Ao57 t301.length co57)) (fun _ hk => hk.2) (.slice Ao59 t304.length co59)) (fun _ hk => hk.2) (.int .i64 t307)) (fun _ hk => hk.2) (.int .i64 t308)) (fun _ h_ => h_.1))) hb); replace BK256 := As.mk (blk_below (g := gb256) (o := .cells #[.slice A0_0 l0_0.length c0_0, .slice A0_1 l0_1.length c0_1, .slice A0_2 l0_2.length c0_2, .int .i64 a0_3, .int .i64 a0_4] 47 (0, 0)) (by refine pl ?_; refine blk_far ?_ NB256_309.out _; refine pl ?_; refine blk_far ?_ NB256_309.out _; refine pl ?_; refine blk_far ?_ NB256_309.out _; refine pl ?_; refine blk_far ?_ NB256_309.out _; refine pl ?_; refine blk_far ?_ NB256_309.out _; exact bx BK256.out) hb); replace BK257 := As.mk (blk_below (g := gb257) (o := .cells #[.int .i64 a1_0, .int .i64 a1_1] 48 (0, 0)) (by refine pl ?_; refine blk_far ?_ NB257_309.out _; refine pl ?_; refine blk_far ?_ NB257_309.out _; refine pl ?_; refine blk_far ?_ NB257_309.out _; refine pl ?_; refine blk_far ?_ NB257_309.out _; refine pl ?_; refine blk_far ?_ NB257_309.out _; exact bx BK257.out) hb); replace BK283 := As.mk (blk_below (g := gb283) (o := .cells #[.slice Ao29 t272.length co29, .slice Ao31 t275.length co31, .slice Ao33 t278.length co33, .int .i64 t281, .int .i64 t282] 34 (0, 0)) (by refine pl ?_; refine blk_far ?_ NB283_309.out _; refine pl ?_; refine blk_far ?_ NB283_309.out _; refine pl ?_; refine blk_far ?_ NB283_309.out _; refine pl ?_; refine blk_far ?_ NB283_309.out _; refine pl ?_; refine blk_far ?_ NB283_309.out _; exact bx BK283.out) hb); replace BK295 := As.mk (blk_below (g := gb295) (o := .cells #[.slice Ao42 t284.length co42, .slice Ao47 t287.length co47, .slice Ao48 t290.length co48, .int .i64 t293, .int .i64 t294] 34 (0, 0)) (by refine pl ?_; refine blk_far ?_ NB295_309.out _; refine pl ?_; refine blk_far ?_ NB295_309.out _; refine pl ?_; refine blk_far ?_ NB295_309.out _; refine pl ?_; refine blk_far ?_ NB295_309.out _; refine pl ?_; refine blk_far ?_ NB295_309.out _; exact bx BK295.out) hb); replace BK309 := As.mk (blk_below (g := gb309) (o := .cells #[.slice Ao55 t298.length co55, .slice Ao57 t301.length co57, .slice Ao59 t304.length co59, .int .i64 t307, .int .i64 t308] 34 (0, 0)) (by refine pl ?_; refine blk_put (cs := #[.slice Ao55 t298.length co55, .slice Ao57 t301.length co57, .slice Ao59 t304.length co59, .int .i64 t307, .int .i64 0]) ?_ 4 _ rfl; refine pl ?_; refine blk_put (cs := #[.slice Ao55 t298.length co55, .slice Ao57 t301.length co57, .slice Ao59 t304.length co59, .int .i64 0, .int .i64 0]) ?_ 3 _ rfl; refine pl ?_; refine blk_put (cs := #[.slice Ao55 t298.length co55, .slice Ao57 t301.length co57, .slice none 0 0, .int .i64 0, .int .i64 0]) ?_ 2 _ rfl; refine pl ?_; refine blk_put (cs := #[.slice Ao55 t298.length co55, .slice none 0 0, .slice none 0 0, .int .i64 0, .int .i64 0]) ?_ 1 _ rfl; refine pl ?_; refine blk_put (cs := #[.slice none 0 0, .slice none 0 0, .slice none 0 0, .int .i64 0, .int .i64 0]) ?_ 0 _ rfl; exact bx BK309.out) hb); replace HB := As.mk (below_step (be w) hb); (try clear hb); (try clear hb2); (try clear hk); (try clear hi)))
   (try simp only [pk])
   go_cut [] (fun wc => ∃ (kq : Nat), As (laws_FnExactWritten.j1 kq a2 l0_0 l0_1 l0_2 a0_3 a0_4 a1_0 a1_1 t272 t275 t278 t281 t282 t284 t287 t290 t293 t294 t298 t301 t304 t307 t308 = some r) ∧ As (kq ≤ kj4) ∧ As (Kd.R k93 93 wc w.heap.size (fun k_ => some k_ ≠ ((.slice Ao42 t284.length co42) : Value).ownBlock ∧ some k_ ≠ ((.slice Ao55 t298.length co55) : Value).ownBlock) (.slice Ao29 t272.length co29) t272) ∧ As (Kd.R (Kd.int .i64) 3 wc w.heap.size (fun k_ => some k_ ≠ ((.slice Ao33 t278.length co33) : Value).ownBlock ∧ some k_ ≠ ((.slice Ao47 t287.length co47) : Value).ownBlock ∧ some k_ ≠ ((.slice Ao48 t290.length co48) : Value).ownBlock ∧ some k_ ≠ ((.slice Ao57 t301.length co57) : Value).ownBlock ∧ some k_ ≠ ((.slice Ao59 t304.length co59) : Value).ownBlock) (.slice Ao31 t275.length co31) t275) ∧ As (Kd.R (Kd.int .i64) 3 wc w.heap.size (fun k_ => some k_ ≠ ((.slice Ao31 t275.length co31) : Value).ownBlock ∧ some k_ ≠ ((.slice Ao47 t287.length co47) : Value).ownBlock ∧ some k_ ≠ ((.slice Ao48 t290.length co48) : Value).ownBlock ∧ some k_ ≠ ((.slice Ao57 t301.length co57) : Value).ownBlock ∧ some k_ ≠ ((.slice Ao59 t304.length co59) : Value).ownBlock) (.slice Ao33 t278.length co33) t278) ∧ As (Kd.R k93 93 wc w.heap.size (fun k_ => some k_ ≠ ((.slice Ao29 t272.length co29) : Value).ownBlock ∧ some k_ ≠ ((.slice Ao55 t298.length co55) : Value).ownBlock) (.slice Ao42 t284.length co42) t284) ∧ As (Kd.R (Kd.int .i64) 3 wc w.heap.size (fun k_ => some k_ ≠ ((.slice Ao31 t275.length co31) : Value).ownBlock ∧ some k_ ≠ ((.slice Ao33 t278.length co33) : Value).ownBlock ∧ some k_ ≠ ((.slice Ao48 t290.length co48) : Value).ownBlock ∧ some k_ ≠ ((.slice Ao57 t301.length co57) : Value).ownBlock ∧ some k_ ≠ ((.slice Ao59 t304.length co59) : Value).ownBlock) (.slice Ao47 t287.length co47) t287) ∧ As (Kd.R (Kd.int .i64) 3 wc w.heap.size (fun k_ => some k_ ≠ ((.slice Ao31 t275.length co31) : Value).ownBlock ∧ some k_ ≠ ((.slice Ao33 t278.length co33) : Value).ownBlock ∧ some k_ ≠ ((.slice Ao47 t287.length co47) : Value).ownBlock ∧ some k_ ≠ ((.slice Ao57 t301.length co57) : Value).ownBlock ∧ some k_ ≠ ((.slice Ao59 t304.length co59) : Value).ownBlock) (.slice Ao48 t290.length co48) t290) ∧ As (Kd.R k93 93 wc w.heap.size (fun k_ => some k_ ≠ ((.slice Ao29 t272.length co29) : Value).ownBlock ∧ some k_ ≠ ((.slice Ao42 t284.length co42) : Value).ownBlock) (.slice Ao55 t298.length co55) t298) ∧ As (Kd.R (Kd.int .i64) 3 wc w.heap.size (fun k_ => some k_ ≠ ((.slice Ao31 t275.length co31) : Value).ownBlock ∧ some k_ ≠ ((.slice Ao33 t278.length co33) : Value).ownBlock ∧ some k_ ≠ ((.slice Ao47 t287.length co47) : Value).ownBlock ∧ some k_ ≠ ((.slice Ao48 t290.length co48) : Value).ownBlock ∧ some k_ ≠ ((.slice Ao59 t304.length co59) : Value).ownBlock) (.slice Ao57 t301.length co57) t301) ∧ As (Kd.R (Kd.int .i64) 3 wc w.heap.size (fun k_ => some k_ ≠ ((.slice Ao31 t275.length co31) : Value).ownBlock ∧ some k_ ≠ ((.slice Ao33 t278.length co33) : Value).ownBlock ∧ some k_ ≠ ((.slice Ao47 t287.length co47) : Value).ownBlock ∧ some k_ ≠ ((.slice Ao48 t290.length co48) : Value).ownBlock ∧ some k_ ≠ ((.slice Ao57 t301.length co57) : Value).ownBlock) (.slice Ao59 t304.length co59) t304) ∧ As (wc.heap[gb256]? = some (.cells #[(.slice A0_0 l0_0.length c0_0), (.slice A0_1 l0_1.length c0_1), (.slice A0_2 l0_2.length c0_2), .int .i64 a0_3, .int .i64 a0_4] 47 (0, 0))) ∧ As (wc.heap[gb257]? = some (.cells #[.int .i64 a1_0, .int .i64 a1_1] 48 (0, 0))) ∧ As (wc.heap[gb283]? = some (.cells #[(.slice Ao29 t272.length co29), (.slice Ao31 t275.length co31), (.slice Ao33 t278.length co33), .int .i64 t281, .int .i64 t282] 34 (0, 0))) ∧ As (wc.heap[gb295]? = some (.cells #[(.slice Ao42 t284.length co42), (.slice Ao47 t287.length co47), (.slice Ao48 t290.length co48), .int .i64 t293, .int .i64 t294] 34 (0, 0))) ∧ As (wc.heap[gb309]? = some (.cells #[(.slice Ao55 t298.length co55), (.slice Ao57 t301.length co57), (.slice Ao59 t304.length co59), .int .i64 t307, .int .i64 t308] 34 (0, 0))) ∧ As (Below w.heap.size w wc))
   case first =>
    have H := HC19.out
    clear HC19
    by_cases c71 : t310 = true
    rotate_left
    ·
     replace c71 := Bool.eq_false_iff.mpr c71
     subst c71
     rw [if_neg (show ¬ (false = true) by decide)] at H
     exact absurd H (by rw [hrt.out]; simp)
    subst c71
    rw [if_pos rfl] at H
    have H' := As.mk H
    clear H
    go_wp2
    go_meet
    case rel => exact ⟨_, H', ⟨by have := HJ4.out; first | omega | exact Nat.le_refl _⟩, ⟨by (with_reducible repeat (first | apply Kd.R_alloc | apply Kd.R_drewN | apply Kd.R_drew)); exact Kd.R_mono HO274.out (fun _ hk => ⟨hk.2.1, hk.2.2⟩)⟩, ⟨by (with_reducible repeat (first | apply Kd.R_alloc | apply Kd.R_drewN | apply Kd.R_drew)); exact Kd.R_mono HO277.out (fun _ hk => ⟨hk.2.2.1, ⟨hk.2.2.2.1, ⟨hk.2.2.2.2.1, ⟨hk.2.2.2.2.2.1, hk.2.2.2.2.2.2⟩⟩⟩⟩)⟩, ⟨by (with_reducible repeat (first | apply Kd.R_alloc | apply Kd.R_drewN | apply Kd.R_drew)); exact Kd.R_mono HO280.out (fun _ hk => ⟨hk.2.2.1, ⟨hk.2.2.2.1, ⟨hk.2.2.2.2.1, ⟨hk.2.2.2.2.2.1, hk.2.2.2.2.2.2⟩⟩⟩⟩)⟩, ⟨by (with_reducible repeat (first | apply Kd.R_alloc | apply Kd.R_drewN | apply Kd.R_drew)); exact Kd.R_mono HO286.out (fun _ hk => ⟨hk.2.1, hk.2.2⟩)⟩, ⟨by (with_reducible repeat (first | apply Kd.R_alloc | apply Kd.R_drewN | apply Kd.R_drew)); exact Kd.R_mono HO289.out (fun _ hk => ⟨hk.2.2.1, ⟨hk.2.2.2.1, ⟨hk.2.2.2.2.1, ⟨hk.2.2.2.2.2.1, hk.2.2.2.2.2.2⟩⟩⟩⟩)⟩, ⟨by (with_reducible repeat (first | apply Kd.R_alloc | apply Kd.R_drewN | apply Kd.R_drew)); exact Kd.R_mono HO292.out (fun _ hk => ⟨hk.2.2.1, ⟨hk.2.2.2.1, ⟨hk.2.2.2.2.1, ⟨hk.2.2.2.2.2.1, hk.2.2.2.2.2.2⟩⟩⟩⟩)⟩, ⟨by (with_reducible repeat (first | apply Kd.R_alloc | apply Kd.R_drewN | apply Kd.R_drew)); exact Kd.R_mono HO300.out (fun _ hk => ⟨hk.2.1, hk.2.2⟩)⟩, ⟨by (with_reducible repeat (first | apply Kd.R_alloc | apply Kd.R_drewN | apply Kd.R_drew)); exact Kd.R_mono HO303.out (fun _ hk => ⟨hk.2.2.1, ⟨hk.2.2.2.1, ⟨hk.2.2.2.2.1, ⟨hk.2.2.2.2.2.1, hk.2.2.2.2.2.2⟩⟩⟩⟩)⟩, ⟨by (with_reducible repeat (first | apply Kd.R_alloc | apply Kd.R_drewN | apply Kd.R_drew)); exact Kd.R_mono HO306.out (fun _ hk => ⟨hk.2.2.1, ⟨hk.2.2.2.1, ⟨hk.2.2.2.2.1, ⟨hk.2.2.2.2.2.1, hk.2.2.2.2.2.2⟩⟩⟩⟩)⟩, ⟨bx BK256.out⟩, ⟨bx BK257.out⟩, ⟨bx BK283.out⟩, ⟨bx BK295.out⟩, ⟨bx BK309.out⟩, ⟨be w⟩⟩
   case rest =>
    clear HC19
    (try clear hcz67_0); (try clear hcz67_1); (try clear hcz67_2); (try clear hcz67_3); (try clear hcz67_4); (try clear hcz69_0); (try clear hcz69_1); (try clear hcz69_2); (try clear hcz69_3); (try clear hcz69_4); (try clear hfz67_0); (try clear hfz67_1); (try clear hfz67_2); (try clear hfz67_3); (try clear hfz67_4); (try clear hfz69_0); (try clear hfz69_1); (try clear hfz69_2); (try clear hfz69_3); (try clear hfz69_4)
    obtain ⟨kq, HA, HJ18, HO_284000, HO_284001, HO_284002, HO_296000, HO_296001, HO_296002, HO_310000, HO_310001, HO_310002, BK256, BK257, BK283, BK295, BK309, HB⟩ := hcut
    cases kq with
    | zero => exact absurd HA.out (by simp [laws_FnExactWritten.j1])
    | succ kj18 =>
     have H := HA.out
     clear HA
     simp only [laws_FnExactWritten.j1] at H
     obtain ⟨⟨t311, t314, t317, t320, t321⟩, A720, H⟩ := Option.bind_eq_some_iff.mp H
     try dsimp only at H
     have A72 := As.mk A720
     clear A720
     obtain ⟨t322, A730, H⟩ := Option.bind_eq_some_iff.mp H
     try dsimp only at H
     have A73 := As.mk A730
     clear A730
     have HC74 := As.mk H
     clear H
     try go_wp2
     replace HO_284000 := As.mk (Kd.R_drew HO_284000.out)
     replace HO_284001 := As.mk (Kd.R_drew HO_284001.out)
     replace HO_284002 := As.mk (Kd.R_drew HO_284002.out)
     replace HO_296000 := As.mk (Kd.R_drew HO_296000.out)
     replace HO_296001 := As.mk (Kd.R_drew HO_296001.out)
     replace HO_296002 := As.mk (Kd.R_drew HO_296002.out)
     replace HO_310000 := As.mk (Kd.R_drew HO_310000.out)
     replace HO_310001 := As.mk (Kd.R_drew HO_310001.out)
     replace HO_310002 := As.mk (Kd.R_drew HO_310002.out)
     replace BK256 := As.mk (blk_drew BK256.out)
     replace BK257 := As.mk (blk_drew BK257.out)
     replace BK283 := As.mk (blk_drew BK283.out)
     replace BK295 := As.mk (blk_drew BK295.out)
     replace BK309 := As.mk (blk_drew BK309.out)
     replace HB := As.mk (below_drew1 HB.out)
     refine start_ (n := 5) (S := fun w' => w'.cell? ⟨gb295, 0, none⟩ = some (.slice Ao42 t284.length co42) ∧ w'.cell? ⟨gb295, 1, none⟩ = some (.slice Ao47 t287.length co47) ∧ w'.cell? ⟨gb295, 2, none⟩ = some (.slice Ao48 t290.length co48) ∧ w'.cell? ⟨gb295, 3, none⟩ = some (.int .i64 t293) ∧ w'.cell? ⟨gb295, 4, none⟩ = some (.int .i64 t294) ∧ w'.cell? ⟨gb256, 0, none⟩ = some (.slice A0_0 l0_0.length c0_0) ∧ w'.cell? ⟨gb256, 1, none⟩ = some (.slice A0_1 l0_1.length c0_1) ∧ w'.cell? ⟨gb256, 2, none⟩ = some (.slice A0_2 l0_2.length c0_2) ∧ w'.cell? ⟨gb256, 3, none⟩ = some (.int .i64 a0_3) ∧ w'.cell? ⟨gb256, 4, none⟩ = some (.int .i64 a0_4)) (ds := []) #[O, O, O, O, O] (by kernel_rfl) rfl rfl ⟨(blk_cell BK295.out 0).trans rfl, (blk_cell BK295.out 1).trans rfl, (blk_cell BK295.out 2).trans rfl, (blk_cell BK295.out 3).trans rfl, (blk_cell BK295.out 4).trans rfl, (blk_cell BK256.out 0).trans rfl, (blk_cell BK256.out 1).trans rfl, (blk_cell BK256.out 2).trans rfl, (blk_cell BK256.out 3).trans rfl, (blk_cell BK256.out 4).trans rfl⟩ (fun hHeld => ?_)
     generalize wc.drew = w75 at HO_284000 HO_284001 HO_284002 HO_296000 HO_296001 HO_296002 HO_310000 HO_310001 HO_310002 BK256 BK257 BK283 BK295 BK309 HB hHeld ⊢
     refine take_ (i := 0) (N := some 37) (v := ?_) (a' := ?_) #[I, O, O, O, O] rfl rfl (by kernel_rfl) (fun _ _ _ h => h) (Or.inl ⟨by rfl, ?_⟩) hHeld ?_ ?_
     rotate_left
     ·
      rintro w' ⟨s0, s1, s2, s3, s4, s5, s6, s7, s8, s9⟩
      go_simp
      with_reducible rfl
     rotate_left
     ·
      simp only [pk, i64_w, i32_w]
      rfl
     refine take_ (i := 1) (N := some 38) (v := ?_) (a' := ?_) #[I, I, O, O, O] rfl rfl (by kernel_rfl) (fun _ _ _ h => h) (Or.inl ⟨by rfl, ?_⟩) hHeld ?_ ?_
     rotate_left
     ·
      rintro w' ⟨s0, s1, s2, s3, s4, s5, s6, s7, s8, s9⟩
      go_simp
      with_reducible rfl
     rotate_left
     ·
      simp only [pk, i64_w, i32_w]
      rfl
     refine one_ (i := 2) (N := some 39) #[I, I, I, O, O] rfl rfl (by kernel_rfl) (by decide) (fun K hK => ?_)
     refine goes_ Try.func25 (by kernel_rfl) rfl #[.agg #[.slice A0_0 l0_0.length c0_0, .slice A0_1 l0_1.length c0_1, .slice A0_2 l0_2.length c0_2, .int .i64 a0_3, .int .i64 a0_4]] (by rfl) rfl rfl (by (try simp only [lm]); first | done | rfl | (simp only [List.length_drop, List.length_take]; rfl)) ?_
     with_reducible refine (laws_toMemory.calls kj18 _ _ l0_0 _ _ l0_1 _ _ l0_2 a0_3 a0_4 t311 t314 t317 t320 t321 _ ?side1 ?side2 ?side3 ?side4 ?side5 ?side6 A72.out).mono ?_
     (case side1 => exact Kd.C_below HR0_0.out (be w))
     (case side2 => exact HC0_0.out)
     (case side3 => exact Kd.C_below HR0_1.out (be w))
     (case side4 => exact HC0_1.out)
     (case side5 => exact Kd.C_below HR0_2.out (be w))
     (case side6 => exact HC0_2.out)
     rintro e w76 ⟨v312, v315, v318, rfl, ho0, ho1, ho2, hb⟩
     refine ⟨_, rfl, ?_⟩
     have HO313 := As.mk (Kd.R_lower (Kd.R_new' (Kd.R_new' (Kd.R_new' ho0 (Kd.R_lt (by (with_reducible repeat (first | apply Kd.R_alloc | apply Kd.R_drewN | apply Kd.R_drew)); exact HO_284000.out))) (Kd.R_lt (by (with_reducible repeat (first | apply Kd.R_alloc | apply Kd.R_drewN | apply Kd.R_drew)); exact HO_296000.out))) (Kd.R_lt (by (with_reducible repeat (first | apply Kd.R_alloc | apply Kd.R_drewN | apply Kd.R_drew)); exact HO_310000.out))) (below_size (be w)))
     replace HO_284000 := As.mk (Kd.R_elder' (by (with_reducible repeat (first | apply Kd.R_alloc | apply Kd.R_drewN | apply Kd.R_drew)); exact HO_284000.out) (Kd.R_base ho0) hb)
     replace HO_296000 := As.mk (Kd.R_elder' (by (with_reducible repeat (first | apply Kd.R_alloc | apply Kd.R_drewN | apply Kd.R_drew)); exact HO_296000.out) (Kd.R_base ho0) hb)
     replace HO_310000 := As.mk (Kd.R_elder' (by (with_reducible repeat (first | apply Kd.R_alloc | apply Kd.R_drewN | apply Kd.R_drew)); exact HO_310000.out) (Kd.R_base ho0) hb)
     have HO316 := As.mk (Kd.R_lower (Kd.R_new' (Kd.R_new' (Kd.R_new' (Kd.R_new' (Kd.R_new' (Kd.R_new' ho1 (Kd.R_lt (by (with_reducible repeat (first | apply Kd.R_alloc | apply Kd.R_drewN | apply Kd.R_drew)); exact HO_284001.out))) (Kd.R_lt (by (with_reducible repeat (first | apply Kd.R_alloc | apply Kd.R_drewN | apply Kd.R_drew)); exact HO_284002.out))) (Kd.R_lt (by (with_reducible repeat (first | apply Kd.R_alloc | apply Kd.R_drewN | apply Kd.R_drew)); exact HO_296001.out))) (Kd.R_lt (by (with_reducible repeat (first | apply Kd.R_alloc | apply Kd.R_drewN | apply Kd.R_drew)); exact HO_296002.out))) (Kd.R_lt (by (with_reducible repeat (first | apply Kd.R_alloc | apply Kd.R_drewN | apply Kd.R_drew)); exact HO_310001.out))) (Kd.R_lt (by (with_reducible repeat (first | apply Kd.R_alloc | apply Kd.R_drewN | apply Kd.R_drew)); exact HO_310002.out))) (below_size (be w)))
     have HO319 := As.mk (Kd.R_lower (Kd.R_new' (Kd.R_new' (Kd.R_new' (Kd.R_new' (Kd.R_new' (Kd.R_new' ho2 (Kd.R_lt (by (with_reducible repeat (first | apply Kd.R_alloc | apply Kd.R_drewN | apply Kd.R_drew)); exact HO_284001.out))) (Kd.R_lt (by (with_reducible repeat (first | apply Kd.R_alloc | apply Kd.R_drewN | apply Kd.R_drew)); exact HO_284002.out))) (Kd.R_lt (by (with_reducible repeat (first | apply Kd.R_alloc | apply Kd.R_drewN | apply Kd.R_drew)); exact HO_296001.out))) (Kd.R_lt (by (with_reducible repeat (first | apply Kd.R_alloc | apply Kd.R_drewN | apply Kd.R_drew)); exact HO_296002.out))) (Kd.R_lt (by (with_reducible repeat (first | apply Kd.R_alloc | apply Kd.R_drewN | apply Kd.R_drew)); exact HO_310001.out))) (Kd.R_lt (by (with_reducible repeat (first | apply Kd.R_alloc | apply Kd.R_drewN | apply Kd.R_drew)); exact HO_310002.out))) (below_size (be w)))
     replace HO_284001 := As.mk (Kd.R_mono (Kd.R_told (Kd.R_told (Kd.R_old (by (with_reducible repeat (first | apply Kd.R_alloc | apply Kd.R_drewN | apply Kd.R_drew)); exact HO_284001.out) hb) (Kd.R_base ho1)) (Kd.R_base ho2)) (fun _ h_ => h_.1))
     replace HO_284002 := As.mk (Kd.R_mono (Kd.R_told (Kd.R_told (Kd.R_old (by (with_reducible repeat (first | apply Kd.R_alloc | apply Kd.R_drewN | apply Kd.R_drew)); exact HO_284002.out) hb) (Kd.R_base ho1)) (Kd.R_base ho2)) (fun _ h_ => h_.1))
     replace HO_296001 := As.mk (Kd.R_mono (Kd.R_told (Kd.R_told (Kd.R_old (by (with_reducible repeat (first | apply Kd.R_alloc | apply Kd.R_drewN | apply Kd.R_drew)); exact HO_296001.out) hb) (Kd.R_base ho1)) (Kd.R_base ho2)) (fun _ h_ => h_.1))
     replace HO_296002 := As.mk (Kd.R_mono (Kd.R_told (Kd.R_told (Kd.R_old (by (with_reducible repeat (first | apply Kd.R_alloc | apply Kd.R_drewN | apply Kd.R_drew)); exact HO_296002.out) hb) (Kd.R_base ho1)) (Kd.R_base ho2)) (fun _ h_ => h_.1))
     replace HO_310001 := As.mk (Kd.R_mono (Kd.R_told (Kd.R_told (Kd.R_old (by (with_reducible repeat (first | apply Kd.R_alloc | apply Kd.R_drewN | apply Kd.R_drew)); exact HO_310001.out) hb) (Kd.R_base ho1)) (Kd.R_base ho2)) (fun _ h_ => h_.1))
     replace HO_310002 := As.mk (Kd.R_mono (Kd.R_told (Kd.R_told (Kd.R_old (by (with_reducible repeat (first | apply Kd.R_alloc | apply Kd.R_drewN | apply Kd.R_drew)); exact HO_310002.out) hb) (Kd.R_base ho1)) (Kd.R_base ho2)) (fun _ h_ => h_.1))
     replace BK256 := As.mk (blk_below (bx BK256.out) hb)
     replace BK257 := As.mk (blk_below (bx BK257.out) hb)
     replace BK283 := As.mk (blk_below (bx BK283.out) hb)
     replace BK295 := As.mk (blk_below (bx BK295.out) hb)
     replace BK309 := As.mk (blk_below (bx BK309.out) hb)
     replace HB := As.mk (below_step (be w) hb)
     (try clear hb)
     (try clear hb2)
     (try clear hk)
     (try clear hi)
     (try clear ho0)
     (try clear ho1)
     (try clear ho2)
     obtain ⟨Ao77, co77, eo77⟩ := Kd.R_slice HO313.out
     (first | subst eo77 | (injection eo77 with f1_ f2_ f3_; have f4_ := f1_.symm; have f5_ := f3_.symm; clear f1_ f2_ f3_; subst f4_; subst f5_))
     obtain ⟨Ao78, co78, eo78⟩ := Kd.R_slice HO316.out
     (first | subst eo78 | (injection eo78 with f1_ f2_ f3_; have f4_ := f1_.symm; have f5_ := f3_.symm; clear f1_ f2_ f3_; subst f4_; subst f5_))
     obtain ⟨Ao79, co79, eo79⟩ := Kd.R_slice HO319.out
     (first | subst eo79 | (injection eo79 with f1_ f2_ f3_; have f4_ := f1_.symm; have f5_ := f3_.symm; clear f1_ f2_ f3_; subst f4_; subst f5_))
     refine hK.out _ _ ⟨(blk_cell BK295.out 0).trans rfl, (blk_cell BK295.out 1).trans rfl, (blk_cell BK295.out 2).trans rfl, (blk_cell BK295.out 3).trans rfl, (blk_cell BK295.out 4).trans rfl, (blk_cell BK256.out 0).trans rfl, (blk_cell BK256.out 1).trans rfl, (blk_cell BK256.out 2).trans rfl, (blk_cell BK256.out 3).trans rfl, (blk_cell BK256.out 4).trans rfl⟩ (fun hHeld => ?_)
     clear hK K
     refine norm_ (a' := ?_) ?_ ?_
     rotate_left
     ·
      show Act.put _ (some 39) _ = _
      simp only [pk, i64_w, i32_w]
      rfl
     refine one_ (i := 3) (N := some 40) #[I, I, I, I, O] rfl rfl (by kernel_rfl) (by decide) (fun K hK => ?_)
     refine goes_ Try.func27 (by kernel_rfl) rfl #[.agg #[.slice Ao42 t284.length co42, .slice Ao47 t287.length co47, .slice Ao48 t290.length co48, .int .i64 t293, .int .i64 t294], .agg #[.slice Ao77 t311.length co77, .slice Ao78 t314.length co78, .slice Ao79 t317.length co79, .int .i64 t320, .int .i64 t321]] (by rfl) rfl rfl (by (try simp only [lm]); first | done | rfl | (simp only [List.length_drop, List.length_take]; rfl)) ?_
     with_reducible refine (laws_eqMemory.calls kj18 _ _ t284 _ _ t287 _ _ t290 t293 t294 _ _ t311 _ _ t314 _ _ t317 t320 t321 t322 _ ?side1 ?side2 ?side3 ?side4 ?side5 ?side6 ?side7 ?side8 ?side9 ?side10 ?side11 ?side12 A73.out).mono ?_
     (case side1 => repeat (first | exact (Kd.R_reads' HO_296000.out).2.2 | (with_reducible refine Kd.C_alloc ?_ _) | (with_reducible refine Kd.C_drewN ?_ _) | (with_reducible refine Kd.C_drew ?_)))
     (case side2 => exact (Kd.R_reads' HO_296000.out).2.1)
     (case side3 => repeat (first | exact (Kd.R_reads' HO_296001.out).2.2 | (with_reducible refine Kd.C_alloc ?_ _) | (with_reducible refine Kd.C_drewN ?_ _) | (with_reducible refine Kd.C_drew ?_)))
     (case side4 => exact (Kd.R_reads' HO_296001.out).2.1)
     (case side5 => repeat (first | exact (Kd.R_reads' HO_296002.out).2.2 | (with_reducible refine Kd.C_alloc ?_ _) | (with_reducible refine Kd.C_drewN ?_ _) | (with_reducible refine Kd.C_drew ?_)))
     (case side6 => exact (Kd.R_reads' HO_296002.out).2.1)
     (case side7 => repeat (first | exact (Kd.R_reads' HO313.out).2.2 | (with_reducible refine Kd.C_alloc ?_ _) | (with_reducible refine Kd.C_drewN ?_ _) | (with_reducible refine Kd.C_drew ?_)))
     (case side8 => exact (Kd.R_reads' HO313.out).2.1)
     (case side9 => repeat (first | exact (Kd.R_reads' HO316.out).2.2 | (with_reducible refine Kd.C_alloc ?_ _) | (with_reducible refine Kd.C_drewN ?_ _) | (with_reducible refine Kd.C_drew ?_)))
     (case side10 => exact (Kd.R_reads' HO316.out).2.1)
     (case side11 => repeat (first | exact (Kd.R_reads' HO319.out).2.2 | (with_reducible refine Kd.C_alloc ?_ _) | (with_reducible refine Kd.C_drewN ?_ _) | (with_reducible refine Kd.C_drew ?_)))
     (case side12 => exact (Kd.R_reads' HO319.out).2.1)
     rintro e w80 ⟨rfl, hb⟩
     refine ⟨_, rfl, ?_⟩
     replace HO_284000 := As.mk (Kd.R_below (by (with_reducible repeat (first | apply Kd.R_alloc | apply Kd.R_drewN | apply Kd.R_drew)); exact HO_284000.out) hb)
     replace HO_284001 := As.mk (Kd.R_below (by (with_reducible repeat (first | apply Kd.R_alloc | apply Kd.R_drewN | apply Kd.R_drew)); exact HO_284001.out) hb)
     replace HO_284002 := As.mk (Kd.R_below (by (with_reducible repeat (first | apply Kd.R_alloc | apply Kd.R_drewN | apply Kd.R_drew)); exact HO_284002.out) hb)
     replace HO_296000 := As.mk (Kd.R_below (by (with_reducible repeat (first | apply Kd.R_alloc | apply Kd.R_drewN | apply Kd.R_drew)); exact HO_296000.out) hb)
     replace HO_296001 := As.mk (Kd.R_below (by (with_reducible repeat (first | apply Kd.R_alloc | apply Kd.R_drewN | apply Kd.R_drew)); exact HO_296001.out) hb)
     replace HO_296002 := As.mk (Kd.R_below (by (with_reducible repeat (first | apply Kd.R_alloc | apply Kd.R_drewN | apply Kd.R_drew)); exact HO_296002.out) hb)
     replace HO_310000 := As.mk (Kd.R_below (by (with_reducible repeat (first | apply Kd.R_alloc | apply Kd.R_drewN | apply Kd.R_drew)); exact HO_310000.out) hb)
     replace HO_310001 := As.mk (Kd.R_below (by (with_reducible repeat (first | apply Kd.R_alloc | apply Kd.R_drewN | apply Kd.R_drew)); exact HO_310001.out) hb)
     replace HO_310002 := As.mk (Kd.R_below (by (with_reducible repeat (first | apply Kd.R_alloc | apply Kd.R_drewN | apply Kd.R_drew)); exact HO_310002.out) hb)
     replace HO313 := As.mk (Kd.R_below (by (with_reducible repeat (first | apply Kd.R_alloc | apply Kd.R_drewN | apply Kd.R_drew)); exact HO313.out) hb)
     replace HO316 := As.mk (Kd.R_below (by (with_reducible repeat (first | apply Kd.R_alloc | apply Kd.R_drewN | apply Kd.R_drew)); exact HO316.out) hb)
     replace HO319 := As.mk (Kd.R_below (by (with_reducible repeat (first | apply Kd.R_alloc | apply Kd.R_drewN | apply Kd.R_drew)); exact HO319.out) hb)
     replace BK256 := As.mk (blk_below (bx BK256.out) hb)
     replace BK257 := As.mk (blk_below (bx BK257.out) hb)
     replace BK283 := As.mk (blk_below (bx BK283.out) hb)
     replace BK295 := As.mk (blk_below (bx BK295.out) hb)
     replace BK309 := As.mk (blk_below (bx BK309.out) hb)
     replace HB := As.mk (below_step (be w) hb)
     (try clear hb)
     (try clear hb2)
     (try clear hk)
     (try clear hi)
     refine hK.out _ _ ⟨(blk_cell BK295.out 0).trans rfl, (blk_cell BK295.out 1).trans rfl, (blk_cell BK295.out 2).trans rfl, (blk_cell BK295.out 3).trans rfl, (blk_cell BK295.out 4).trans rfl, (blk_cell BK256.out 0).trans rfl, (blk_cell BK256.out 1).trans rfl, (blk_cell BK256.out 2).trans rfl, (blk_cell BK256.out 3).trans rfl, (blk_cell BK256.out 4).trans rfl⟩ (fun hHeld => ?_)
     clear hK K
     refine norm_ (a' := ?_) ?_ ?_
     rotate_left
     ·
      show Act.put _ (some 40) _ = _
      simp only [pk, i64_w, i32_w]
      rfl
     refine pure_ (i := 4) (N := some 41) (v := ?_) (a' := ?_) #[I, I, I, I, I] rfl rfl (by kernel_rfl) (fun _ _ _ h => h) (Or.inl ⟨by rfl, ?_⟩) ?_ ?_
     rotate_left
     ·
      intro w'
      go_simp
      with_reducible rfl
     rotate_left
     ·
      simp only [pk, i64_w, i32_w]
      rfl
     refine done_ (by kernel_rfl) ?_
     go_upto_if 41 with (fail)
     go_cut [] (fun wc => ∃ (kq : Nat), As (laws_FnExactWritten.j2 kq a2 l0_0 l0_1 l0_2 a0_3 a0_4 a1_0 a1_1 t272 t275 t278 t281 t282 t284 t287 t290 t293 t294 t298 t301 t304 t307 t308 = some r) ∧ As (kq ≤ kj18) ∧ As (Kd.R k93 93 wc w.heap.size (fun k_ => some k_ ≠ ((.slice Ao42 t284.length co42) : Value).ownBlock ∧ some k_ ≠ ((.slice Ao55 t298.length co55) : Value).ownBlock) (.slice Ao29 t272.length co29) t272) ∧ As (Kd.R (Kd.int .i64) 3 wc w.heap.size (fun k_ => some k_ ≠ ((.slice Ao33 t278.length co33) : Value).ownBlock ∧ some k_ ≠ ((.slice Ao47 t287.length co47) : Value).ownBlock ∧ some k_ ≠ ((.slice Ao48 t290.length co48) : Value).ownBlock ∧ some k_ ≠ ((.slice Ao57 t301.length co57) : Value).ownBlock ∧ some k_ ≠ ((.slice Ao59 t304.length co59) : Value).ownBlock) (.slice Ao31 t275.length co31) t275) ∧ As (Kd.R (Kd.int .i64) 3 wc w.heap.size (fun k_ => some k_ ≠ ((.slice Ao31 t275.length co31) : Value).ownBlock ∧ some k_ ≠ ((.slice Ao47 t287.length co47) : Value).ownBlock ∧ some k_ ≠ ((.slice Ao48 t290.length co48) : Value).ownBlock ∧ some k_ ≠ ((.slice Ao57 t301.length co57) : Value).ownBlock ∧ some k_ ≠ ((.slice Ao59 t304.length co59) : Value).ownBlock) (.slice Ao33 t278.length co33) t278) ∧ As (Kd.R k93 93 wc w.heap.size (fun k_ => some k_ ≠ ((.slice Ao29 t272.length co29) : Value).ownBlock ∧ some k_ ≠ ((.slice Ao55 t298.length co55) : Value).ownBlock) (.slice Ao42 t284.length co42) t284) ∧ As (Kd.R (Kd.int .i64) 3 wc w.heap.size (fun k_ => some k_ ≠ ((.slice Ao31 t275.length co31) : Value).ownBlock ∧ some k_ ≠ ((.slice Ao33 t278.length co33) : Value).ownBlock ∧ some k_ ≠ ((.slice Ao48 t290.length co48) : Value).ownBlock ∧ some k_ ≠ ((.slice Ao57 t301.length co57) : Value).ownBlock ∧ some k_ ≠ ((.slice Ao59 t304.length co59) : Value).ownBlock) (.slice Ao47 t287.length co47) t287) ∧ As (Kd.R (Kd.int .i64) 3 wc w.heap.size (fun k_ => some k_ ≠ ((.slice Ao31 t275.length co31) : Value).ownBlock ∧ some k_ ≠ ((.slice Ao33 t278.length co33) : Value).ownBlock ∧ some k_ ≠ ((.slice Ao47 t287.length co47) : Value).ownBlock ∧ some k_ ≠ ((.slice Ao57 t301.length co57) : Value).ownBlock ∧ some k_ ≠ ((.slice Ao59 t304.length co59) : Value).ownBlock) (.slice Ao48 t290.length co48) t290) ∧ As (Kd.R k93 93 wc w.heap.size (fun k_ => some k_ ≠ ((.slice Ao29 t272.length co29) : Value).ownBlock ∧ some k_ ≠ ((.slice Ao42 t284.length co42) : Value).ownBlock) (.slice Ao55 t298.length co55) t298) ∧ As (Kd.R (Kd.int .i64) 3 wc w.heap.size (fun k_ => some k_ ≠ ((.slice Ao31 t275.length co31) : Value).ownBlock ∧ some k_ ≠ ((.slice Ao33 t278.length co33) : Value).ownBlock ∧ some k_ ≠ ((.slice Ao47 t287.length co47) : Value).ownBlock ∧ some k_ ≠ ((.slice Ao48 t290.length co48) : Value).ownBlock ∧ some k_ ≠ ((.slice Ao59 t304.length co59) : Value).ownBlock) (.slice Ao57 t301.length co57) t301) ∧ As (Kd.R (Kd.int .i64) 3 wc w.heap.size (fun k_ => some k_ ≠ ((.slice Ao31 t275.length co31) : Value).ownBlock ∧ some k_ ≠ ((.slice Ao33 t278.length co33) : Value).ownBlock ∧ some k_ ≠ ((.slice Ao47 t287.length co47) : Value).ownBlock ∧ some k_ ≠ ((.slice Ao48 t290.length co48) : Value).ownBlock ∧ some k_ ≠ ((.slice Ao57 t301.length co57) : Value).ownBlock) (.slice Ao59 t304.length co59) t304) ∧ As (wc.heap[gb256]? = some (.cells #[(.slice A0_0 l0_0.length c0_0), (.slice A0_1 l0_1.length c0_1), (.slice A0_2 l0_2.length c0_2), .int .i64 a0_3, .int .i64 a0_4] 47 (0, 0))) ∧ As (wc.heap[gb257]? = some (.cells #[.int .i64 a1_0, .int .i64 a1_1] 48 (0, 0))) ∧ As (wc.heap[gb283]? = some (.cells #[(.slice Ao29 t272.length co29), (.slice Ao31 t275.length co31), (.slice Ao33 t278.length co33), .int .i64 t281, .int .i64 t282] 34 (0, 0))) ∧ As (wc.heap[gb295]? = some (.cells #[(.slice Ao42 t284.length co42), (.slice Ao47 t287.length co47), (.slice Ao48 t290.length co48), .int .i64 t293, .int .i64 t294] 34 (0, 0))) ∧ As (wc.heap[gb309]? = some (.cells #[(.slice Ao55 t298.length co55), (.slice Ao57 t301.length co57), (.slice Ao59 t304.length co59), .int .i64 t307, .int .i64 t308] 34 (0, 0))) ∧ As (Below w.heap.size w wc))
     case first =>
      have H := HC74.out
      clear HC74
      by_cases c81 : t322 = true
      rotate_left
      ·
       replace c81 := Bool.eq_false_iff.mpr c81
       subst c81
       rw [if_neg (show ¬ (false = true) by decide)] at H
       exact absurd H (by rw [hrt.out]; simp)
      subst c81
      rw [if_pos rfl] at H
      have H' := As.mk H
      clear H
      go_wp2
      go_meet
      case rel => exact ⟨_, H', ⟨by have := HJ4.out; have := HJ18.out; first | omega | exact Nat.le_refl _⟩, ⟨by (with_reducible repeat (first | apply Kd.R_alloc | apply Kd.R_drewN | apply Kd.R_drew)); exact Kd.R_mono HO_284000.out (fun _ hk => ⟨hk.1.1, hk.1.2⟩)⟩, ⟨by (with_reducible repeat (first | apply Kd.R_alloc | apply Kd.R_drewN | apply Kd.R_drew)); exact Kd.R_mono HO_284001.out (fun _ hk => ⟨hk.1.1.1, ⟨hk.1.1.2.1, ⟨hk.1.1.2.2.1, ⟨hk.1.1.2.2.2.1, hk.1.1.2.2.2.2⟩⟩⟩⟩)⟩, ⟨by (with_reducible repeat (first | apply Kd.R_alloc | apply Kd.R_drewN | apply Kd.R_drew)); exact Kd.R_mono HO_284002.out (fun _ hk => ⟨hk.1.1.1, ⟨hk.1.1.2.1, ⟨hk.1.1.2.2.1, ⟨hk.1.1.2.2.2.1, hk.1.1.2.2.2.2⟩⟩⟩⟩)⟩, ⟨by (with_reducible repeat (first | apply Kd.R_alloc | apply Kd.R_drewN | apply Kd.R_drew)); exact Kd.R_mono HO_296000.out (fun _ hk => ⟨hk.1.1, hk.1.2⟩)⟩, ⟨by (with_reducible repeat (first | apply Kd.R_alloc | apply Kd.R_drewN | apply Kd.R_drew)); exact Kd.R_mono HO_296001.out (fun _ hk => ⟨hk.1.1.1, ⟨hk.1.1.2.1, ⟨hk.1.1.2.2.1, ⟨hk.1.1.2.2.2.1, hk.1.1.2.2.2.2⟩⟩⟩⟩)⟩, ⟨by (with_reducible repeat (first | apply Kd.R_alloc | apply Kd.R_drewN | apply Kd.R_drew)); exact Kd.R_mono HO_296002.out (fun _ hk => ⟨hk.1.1.1, ⟨hk.1.1.2.1, ⟨hk.1.1.2.2.1, ⟨hk.1.1.2.2.2.1, hk.1.1.2.2.2.2⟩⟩⟩⟩)⟩, ⟨by (with_reducible repeat (first | apply Kd.R_alloc | apply Kd.R_drewN | apply Kd.R_drew)); exact Kd.R_mono HO_310000.out (fun _ hk => ⟨hk.1.1, hk.1.2⟩)⟩, ⟨by (with_reducible repeat (first | apply Kd.R_alloc | apply Kd.R_drewN | apply Kd.R_drew)); exact Kd.R_mono HO_310001.out (fun _ hk => ⟨hk.1.1.1, ⟨hk.1.1.2.1, ⟨hk.1.1.2.2.1, ⟨hk.1.1.2.2.2.1, hk.1.1.2.2.2.2⟩⟩⟩⟩)⟩, ⟨by (with_reducible repeat (first | apply Kd.R_alloc | apply Kd.R_drewN | apply Kd.R_drew)); exact Kd.R_mono HO_310002.out (fun _ hk => ⟨hk.1.1.1, ⟨hk.1.1.2.1, ⟨hk.1.1.2.2.1, ⟨hk.1.1.2.2.2.1, hk.1.1.2.2.2.2⟩⟩⟩⟩)⟩, ⟨bx BK256.out⟩, ⟨bx BK257.out⟩, ⟨bx BK283.out⟩, ⟨bx BK295.out⟩, ⟨bx BK309.out⟩, ⟨be w⟩⟩
     case rest =>
      clear HC74
      (try clear hcz67_0); (try clear hcz67_1); (try clear hcz67_2); (try clear hcz67_3); (try clear hcz67_4); (try clear hcz69_0); (try clear hcz69_1); (try clear hcz69_2); (try clear hcz69_3); (try clear hcz69_4); (try clear hfz67_0); (try clear hfz67_1); (try clear hfz67_2); (try clear hfz67_3); (try clear hfz67_4); (try clear hfz69_0); (try clear hfz69_1); (try clear hfz69_2); (try clear hfz69_3); (try clear hfz69_4)
      obtain ⟨kq, HA, HJ73, HO_284000, HO_284001, HO_284002, HO_296000, HO_296001, HO_296002, HO_310000, HO_310001, HO_310002, BK256, BK257, BK283, BK295, BK309, HB⟩ := hcut
      cases kq with
      | zero => exact absurd HA.out (by simp [laws_FnExactWritten.j2])
      | succ kj73 =>
       have H := HA.out
       clear HA
       simp only [laws_FnExactWritten.j2] at H
       obtain ⟨⟨t323, t324, t325, t326⟩, A820, H⟩ := Option.bind_eq_some_iff.mp H
       try dsimp only at H
       have A82 := As.mk A820
       clear A820
       have HC83 := As.mk H
       clear H
       have hnb84 := NB295_256.out
       have hnc84 := NB256_295.out
       have hnb85 := NB295_257.out
       have hnc85 := NB257_295.out
       have hnb86 := NB295_283.out
       have hnc86 := NB283_295.out
       have hnb87 := NB295_309.out
       have hnc87 := NB309_295.out
       obtain ⟨hcz88_0, hcz88_1, hcz88_2, hcz88_3, hcz88_4, hfz88_0, hfz88_1, hfz88_2, hfz88_3, hfz88_4⟩ := cl5 BK295.out
       go_upto_region 14 with (first | ((with_reducible refine gate_callee (f := 28) rfl ?_); refine goesL_ (some 44) rfl rfl Try.func28 (by kernel_rfl) rfl #[.agg #[.slice Ao42 t284.length co42, .slice Ao47 t287.length co47, .slice Ao48 t290.length co48, .int .i64 t293, .int .i64 t294], .int .i64 1] rfl (by (try simp only [lm]); first | done | rfl | (simp only [List.length_drop, List.length_take]; rfl)) ?_; (with_reducible refine (laws_markMemory.calls kj73 (fun k_ => some k_ = (.slice Ao42 t284.length co42 : Value).ownBlock) (.slice Ao42 t284.length co42) t284 (fun k_ => some k_ = (.slice Ao47 t287.length co47 : Value).ownBlock) (.slice Ao47 t287.length co47) t287 (fun k_ => some k_ = (.slice Ao48 t290.length co48 : Value).ownBlock) (.slice Ao48 t290.length co48) t290 t293 t294 1 t323 t324 t325 t326 w _ ?side1 ?side2 ?side3 ?side4 ?side5 ?side6 A82.out).mono ?_); (case side1 => repeat (first | (with_reducible first | exact HB.out | apply below_alloc | apply pw_below_drewN | apply below_drew1 | refine below_set ?_ GE256.out | refine below_set ?_ GE257.out | refine below_set ?_ GE283.out | refine below_set ?_ GE295.out | refine below_set ?_ GE309.out) | exact HB.out)); (case side2 => exact Kd.R_tight rfl HO_296000.out); (case side3 => exact Kd.R_tight rfl HO_296001.out); (case side4 => exact fun k_ e_ => (HO_296001.out.1 k_ e_.symm).2.2.1); (case side5 => exact Kd.R_tight rfl HO_296002.out); (case side6 => exact fun k_ e_ => (HO_296002.out.1 k_ e_.symm).2.2.1); rintro e w89 ⟨rfl, hy0, hy1, hy2, hb, hkp⟩; refine ⟨_, rfl, ?_⟩; replace HO_284000 := As.mk (Kd.R_mono (ok' := fun k_ => some k_ ≠ (.slice Ao42 t284.length co42 : Value).ownBlock ∧ some k_ ≠ (.slice Ao55 t298.length co55 : Value).ownBlock) (Kd.R_keptB ((Kd.R_apart' (Kd.R_apart' HO_284000.out (Kd.R_typed HO_296001.out) (by decide)) (Kd.R_typed HO_296002.out) (by decide))) hkp (fun k_ hk_ hs_ => Or.elim hs_ (fun e_ => (hk_.1.1.1) e_) (fun e_ => Or.elim e_ (fun e_ => (hk_.1.2) e_) (fun e_ => (hk_.2) e_)))) (fun k_ hk_ => ⟨hk_.1.1.1.1, hk_.1.1.1.2⟩)); replace HO_284001 := As.mk (Kd.R_mono (ok' := fun k_ => some k_ ≠ (.slice Ao33 t278.length co33 : Value).ownBlock ∧ some k_ ≠ (.slice Ao47 t287.length co47 : Value).ownBlock ∧ some k_ ≠ (.slice Ao48 t290.length co48 : Value).ownBlock ∧ some k_ ≠ (.slice Ao57 t301.length co57 : Value).ownBlock ∧ some k_ ≠ (.slice Ao59 t304.length co59 : Value).ownBlock) (Kd.R_keptB ((Kd.R_apart' HO_284001.out (Kd.R_typed HO_296000.out) (by decide))) hkp (fun k_ hk_ hs_ => Or.elim hs_ (fun e_ => (hk_.2) e_) (fun e_ => Or.elim e_ (fun e_ => (hk_.1.2.1) e_) (fun e_ => (hk_.1.2.2.1) e_)))) (fun k_ hk_ => ⟨hk_.1.1.1, hk_.1.1.2.1, hk_.1.1.2.2.1, hk_.1.1.2.2.2.1, hk_.1.1.2.2.2.2⟩)); replace HO_284002 := As.mk (Kd.R_mono (ok' := fun k_ => some k_ ≠ (.slice Ao31 t275.length co31 : Value).ownBlock ∧ some k_ ≠ (.slice Ao47 t287.length co47 : Value).ownBlock ∧ some k_ ≠ (.slice Ao48 t290.length co48 : Value).ownBlock ∧ some k_ ≠ (.slice Ao57 t301.length co57 : Value).ownBlock ∧ some k_ ≠ (.slice Ao59 t304.length co59 : Value).ownBlock) (Kd.R_keptB ((Kd.R_apart' HO_284002.out (Kd.R_typed HO_296000.out) (by decide))) hkp (fun k_ hk_ hs_ => Or.elim hs_ (fun e_ => (hk_.2) e_) (fun e_ => Or.elim e_ (fun e_ => (hk_.1.2.1) e_) (fun e_ => (hk_.1.2.2.1) e_)))) (fun k_ hk_ => ⟨hk_.1.1.1, hk_.1.1.2.1, hk_.1.1.2.2.1, hk_.1.1.2.2.2.1, hk_.1.1.2.2.2.2⟩)); replace HO_310000 := As.mk (Kd.R_mono (ok' := fun k_ => some k_ ≠ (.slice Ao29 t272.length co29 : Value).ownBlock ∧ some k_ ≠ (.slice Ao42 t284.length co42 : Value).ownBlock) (Kd.R_keptB ((Kd.R_apart' (Kd.R_apart' HO_310000.out (Kd.R_typed HO_296001.out) (by decide)) (Kd.R_typed HO_296002.out) (by decide))) hkp (fun k_ hk_ hs_ => Or.elim hs_ (fun e_ => (hk_.1.1.2) e_) (fun e_ => Or.elim e_ (fun e_ => (hk_.1.2) e_) (fun e_ => (hk_.2) e_)))) (fun k_ hk_ => ⟨hk_.1.1.1.1, hk_.1.1.1.2⟩)); replace HO_310001 := As.mk (Kd.R_mono (ok' := fun k_ => some k_ ≠ (.slice Ao31 t275.length co31 : Value).ownBlock ∧ some k_ ≠ (.slice Ao33 t278.length co33 : Value).ownBlock ∧ some k_ ≠ (.slice Ao47 t287.length co47 : Value).ownBlock ∧ some k_ ≠ (.slice Ao48 t290.length co48 : Value).ownBlock ∧ some k_ ≠ (.slice Ao59 t304.length co59 : Value).ownBlock) (Kd.R_keptB ((Kd.R_apart' HO_310001.out (Kd.R_typed HO_296000.out) (by decide))) hkp (fun k_ hk_ hs_ => Or.elim hs_ (fun e_ => (hk_.2) e_) (fun e_ => Or.elim e_ (fun e_ => (hk_.1.2.2.1) e_) (fun e_ => (hk_.1.2.2.2.1) e_)))) (fun k_ hk_ => ⟨hk_.1.1.1, hk_.1.1.2.1, hk_.1.1.2.2.1, hk_.1.1.2.2.2.1, hk_.1.1.2.2.2.2⟩)); replace HO_310002 := As.mk (Kd.R_mono (ok' := fun k_ => some k_ ≠ (.slice Ao31 t275.length co31 : Value).ownBlock ∧ some k_ ≠ (.slice Ao33 t278.length co33 : Value).ownBlock ∧ some k_ ≠ (.slice Ao47 t287.length co47 : Value).ownBlock ∧ some k_ ≠ (.slice Ao48 t290.length co48 : Value).ownBlock ∧ some k_ ≠ (.slice Ao57 t301.length co57 : Value).ownBlock) (Kd.R_keptB ((Kd.R_apart' HO_310002.out (Kd.R_typed HO_296000.out) (by decide))) hkp (fun k_ hk_ hs_ => Or.elim hs_ (fun e_ => (hk_.2) e_) (fun e_ => Or.elim e_ (fun e_ => (hk_.1.2.2.1) e_) (fun e_ => (hk_.1.2.2.2.1) e_)))) (fun k_ hk_ => ⟨hk_.1.1.1, hk_.1.1.2.1, hk_.1.1.2.2.1, hk_.1.1.2.2.2.1, hk_.1.1.2.2.2.2⟩)); replace BK256 := As.mk (blk_kept (bx BK256.out) hkp (fun hs_ => Or.elim hs_ (fun e_ => (fun e_ => (Kd.R_ne HO_296000.out BK256.out (by decide)) e_) e_) (fun e_ => Or.elim e_ (fun e_ => (fun e_ => (Kd.R_ne HO_296001.out BK256.out (by decide)) e_) e_) (fun e_ => (fun e_ => (Kd.R_ne HO_296002.out BK256.out (by decide)) e_) e_)))); replace BK257 := As.mk (blk_kept (bx BK257.out) hkp (fun hs_ => Or.elim hs_ (fun e_ => (fun e_ => (Kd.R_ne HO_296000.out BK257.out (by decide)) e_) e_) (fun e_ => Or.elim e_ (fun e_ => (fun e_ => (Kd.R_ne HO_296001.out BK257.out (by decide)) e_) e_) (fun e_ => (fun e_ => (Kd.R_ne HO_296002.out BK257.out (by decide)) e_) e_)))); replace BK283 := As.mk (blk_kept (bx BK283.out) hkp (fun hs_ => Or.elim hs_ (fun e_ => (fun e_ => (Kd.R_ne HO_296000.out BK283.out (by decide)) e_) e_) (fun e_ => Or.elim e_ (fun e_ => (fun e_ => (Kd.R_ne HO_296001.out BK283.out (by decide)) e_) e_) (fun e_ => (fun e_ => (Kd.R_ne HO_296002.out BK283.out (by decide)) e_) e_)))); replace BK295 := As.mk (blk_kept (bx BK295.out) hkp (fun hs_ => Or.elim hs_ (fun e_ => (fun e_ => (Kd.R_ne HO_296000.out BK295.out (by decide)) e_) e_) (fun e_ => Or.elim e_ (fun e_ => (fun e_ => (Kd.R_ne HO_296001.out BK295.out (by decide)) e_) e_) (fun e_ => (fun e_ => (Kd.R_ne HO_296002.out BK295.out (by decide)) e_) e_)))); replace BK309 := As.mk (blk_kept (bx BK309.out) hkp (fun hs_ => Or.elim hs_ (fun e_ => (fun e_ => (Kd.R_ne HO_296000.out BK309.out (by decide)) e_) e_) (fun e_ => Or.elim e_ (fun e_ => (fun e_ => (Kd.R_ne HO_296001.out BK309.out (by decide)) e_) e_) (fun e_ => (fun e_ => (Kd.R_ne HO_296002.out BK309.out (by decide)) e_) e_)))); replace HO_296000 := As.mk (Kd.R_reok rfl hy0 (fun k_ e_ => HO_296000.out.1 k_ e_)); replace HO_296001 := As.mk (Kd.R_reok rfl hy1 (fun k_ e_ => HO_296001.out.1 k_ e_)); replace HO_296002 := As.mk (Kd.R_reok rfl hy2 (fun k_ e_ => HO_296002.out.1 k_ e_)); replace HB := As.mk (hb); (try clear hb); (try clear hkp); (try clear hy0); (try clear hy1); (try clear hy2)))
       (try simp only [pk])
       go_cut [52] (fun v52 wc => ∃ (kq : Nat) (x52_82 : Bool), v52 = .bool x52_82 ∧ As (laws_FnExactWritten.j3 kq a2 x52_82 l0_0 l0_1 l0_2 a0_3 a0_4 a1_0 a1_1 t272 t275 t278 t281 t282 t298 t301 t304 t307 t308 = some r) ∧ As (kq ≤ kj73) ∧ As (Kd.R k93 93 wc w.heap.size (fun k_ => some k_ ≠ ((.slice Ao42 t284.length co42) : Value).ownBlock ∧ some k_ ≠ ((.slice Ao55 t298.length co55) : Value).ownBlock) (.slice Ao29 t272.length co29) t272) ∧ As (Kd.R (Kd.int .i64) 3 wc w.heap.size (fun k_ => some k_ ≠ ((.slice Ao33 t278.length co33) : Value).ownBlock ∧ some k_ ≠ ((.slice Ao47 t287.length co47) : Value).ownBlock ∧ some k_ ≠ ((.slice Ao48 t290.length co48) : Value).ownBlock ∧ some k_ ≠ ((.slice Ao57 t301.length co57) : Value).ownBlock ∧ some k_ ≠ ((.slice Ao59 t304.length co59) : Value).ownBlock) (.slice Ao31 t275.length co31) t275) ∧ As (Kd.R (Kd.int .i64) 3 wc w.heap.size (fun k_ => some k_ ≠ ((.slice Ao31 t275.length co31) : Value).ownBlock ∧ some k_ ≠ ((.slice Ao47 t287.length co47) : Value).ownBlock ∧ some k_ ≠ ((.slice Ao48 t290.length co48) : Value).ownBlock ∧ some k_ ≠ ((.slice Ao57 t301.length co57) : Value).ownBlock ∧ some k_ ≠ ((.slice Ao59 t304.length co59) : Value).ownBlock) (.slice Ao33 t278.length co33) t278) ∧ As (Kd.R k93 93 wc w.heap.size (fun k_ => some k_ ≠ ((.slice Ao29 t272.length co29) : Value).ownBlock ∧ some k_ ≠ ((.slice Ao55 t298.length co55) : Value).ownBlock) (.slice Ao42 t284.length co42) t324) ∧ As (Kd.R (Kd.int .i64) 3 wc w.heap.size (fun k_ => some k_ ≠ ((.slice Ao31 t275.length co31) : Value).ownBlock ∧ some k_ ≠ ((.slice Ao33 t278.length co33) : Value).ownBlock ∧ some k_ ≠ ((.slice Ao48 t290.length co48) : Value).ownBlock ∧ some k_ ≠ ((.slice Ao57 t301.length co57) : Value).ownBlock ∧ some k_ ≠ ((.slice Ao59 t304.length co59) : Value).ownBlock) (.slice Ao47 t287.length co47) t325) ∧ As (Kd.R (Kd.int .i64) 3 wc w.heap.size (fun k_ => some k_ ≠ ((.slice Ao31 t275.length co31) : Value).ownBlock ∧ some k_ ≠ ((.slice Ao33 t278.length co33) : Value).ownBlock ∧ some k_ ≠ ((.slice Ao47 t287.length co47) : Value).ownBlock ∧ some k_ ≠ ((.slice Ao57 t301.length co57) : Value).ownBlock ∧ some k_ ≠ ((.slice Ao59 t304.length co59) : Value).ownBlock) (.slice Ao48 t290.length co48) t326) ∧ As (Kd.R k93 93 wc w.heap.size (fun k_ => some k_ ≠ ((.slice Ao29 t272.length co29) : Value).ownBlock ∧ some k_ ≠ ((.slice Ao42 t284.length co42) : Value).ownBlock) (.slice Ao55 t298.length co55) t298) ∧ As (Kd.R (Kd.int .i64) 3 wc w.heap.size (fun k_ => some k_ ≠ ((.slice Ao31 t275.length co31) : Value).ownBlock ∧ some k_ ≠ ((.slice Ao33 t278.length co33) : Value).ownBlock ∧ some k_ ≠ ((.slice Ao47 t287.length co47) : Value).ownBlock ∧ some k_ ≠ ((.slice Ao48 t290.length co48) : Value).ownBlock ∧ some k_ ≠ ((.slice Ao59 t304.length co59) : Value).ownBlock) (.slice Ao57 t301.length co57) t301) ∧ As (Kd.R (Kd.int .i64) 3 wc w.heap.size (fun k_ => some k_ ≠ ((.slice Ao31 t275.length co31) : Value).ownBlock ∧ some k_ ≠ ((.slice Ao33 t278.length co33) : Value).ownBlock ∧ some k_ ≠ ((.slice Ao47 t287.length co47) : Value).ownBlock ∧ some k_ ≠ ((.slice Ao48 t290.length co48) : Value).ownBlock ∧ some k_ ≠ ((.slice Ao57 t301.length co57) : Value).ownBlock) (.slice Ao59 t304.length co59) t304) ∧ As (wc.heap[gb256]? = some (.cells #[(.slice A0_0 l0_0.length c0_0), (.slice A0_1 l0_1.length c0_1), (.slice A0_2 l0_2.length c0_2), .int .i64 a0_3, .int .i64 a0_4] 47 (0, 0))) ∧ As (wc.heap[gb257]? = some (.cells #[.int .i64 a1_0, .int .i64 a1_1] 48 (0, 0))) ∧ As (wc.heap[gb283]? = some (.cells #[(.slice Ao29 t272.length co29), (.slice Ao31 t275.length co31), (.slice Ao33 t278.length co33), .int .i64 t281, .int .i64 t282] 34 (0, 0))) ∧ As (wc.heap[gb295]? = some (.cells #[(.slice Ao42 t284.length co42), (.slice Ao47 t287.length co47), (.slice Ao48 t290.length co48), .int .i64 t293, .int .i64 t294] 34 (0, 0))) ∧ As (wc.heap[gb309]? = some (.cells #[(.slice Ao55 t298.length co55), (.slice Ao57 t301.length co57), (.slice Ao59 t304.length co59), .int .i64 t307, .int .i64 t308] 34 (0, 0))) ∧ As (Below w.heap.size w wc))
       case first =>
        have H := HC83.out
        clear HC83
        by_cases c90 : t323 < 0
        ·
         rw [if_pos c90] at H
         have c90b0 : decide (t323 < 0) = true := decide_eq_true c90
         clear c90
         (first | rw [c90b0] | (simp only [i64_w, i32_w]; rw [c90b0]) | skip)
         have H' := As.mk H
         clear H
         go_wp2
         go_meet
         case rel => exact ⟨_, (true), (by first | rfl | (simp; done) | (simp [*]; done)), H', ⟨by have := HJ4.out; have := HJ18.out; have := HJ73.out; first | omega | exact Nat.le_refl _⟩, ⟨by (with_reducible repeat (first | apply Kd.R_alloc | apply Kd.R_drewN | apply Kd.R_drew)); exact HO_284000.out⟩, ⟨by (with_reducible repeat (first | apply Kd.R_alloc | apply Kd.R_drewN | apply Kd.R_drew)); exact HO_284001.out⟩, ⟨by (with_reducible repeat (first | apply Kd.R_alloc | apply Kd.R_drewN | apply Kd.R_drew)); exact HO_284002.out⟩, ⟨by (with_reducible repeat (first | apply Kd.R_alloc | apply Kd.R_drewN | apply Kd.R_drew)); exact HO_296000.out⟩, ⟨by (with_reducible repeat (first | apply Kd.R_alloc | apply Kd.R_drewN | apply Kd.R_drew)); exact HO_296001.out⟩, ⟨by (with_reducible repeat (first | apply Kd.R_alloc | apply Kd.R_drewN | apply Kd.R_drew)); exact HO_296002.out⟩, ⟨by (with_reducible repeat (first | apply Kd.R_alloc | apply Kd.R_drewN | apply Kd.R_drew)); exact HO_310000.out⟩, ⟨by (with_reducible repeat (first | apply Kd.R_alloc | apply Kd.R_drewN | apply Kd.R_drew)); exact HO_310001.out⟩, ⟨by (with_reducible repeat (first | apply Kd.R_alloc | apply Kd.R_drewN | apply Kd.R_drew)); exact HO_310002.out⟩, ⟨bx BK256.out⟩, ⟨bx BK257.out⟩, ⟨bx BK283.out⟩, ⟨bx BK295.out⟩, ⟨bx BK309.out⟩, ⟨be w⟩⟩
        rw [if_neg c90] at H
        have c90b0 : decide (t323 < 0) = false := decide_eq_false c90
        clear c90
        (first | rw [c90b0] | (simp only [i64_w, i32_w]; rw [c90b0]) | skip)
        obtain ⟨t327, A910, H⟩ := Option.bind_eq_some_iff.mp H
        try dsimp only at H
        have A91 := As.mk A910
        clear A910
        have H' := As.mk H
        clear H
        have hnb92 := NB309_256.out
        have hnc92 := NB256_309.out
        have hnb93 := NB309_257.out
        have hnc93 := NB257_309.out
        have hnb94 := NB309_283.out
        have hnc94 := NB283_309.out
        have hnb95 := NB309_295.out
        have hnc95 := NB295_309.out
        obtain ⟨hcz96_0, hcz96_1, hcz96_2, hcz96_3, hcz96_4, hfz96_0, hfz96_1, hfz96_2, hfz96_3, hfz96_4⟩ := cl5 BK309.out
        have hnb97 := NB283_256.out
        have hnc97 := NB256_283.out
        have hnb98 := NB283_257.out
        have hnc98 := NB257_283.out
        have hnb99 := NB283_295.out
        have hnc99 := NB295_283.out
        obtain ⟨hcz100_0, hcz100_1, hcz100_2, hcz100_3, hcz100_4, hfz100_0, hfz100_1, hfz100_2, hfz100_3, hfz100_4⟩ := cl5 BK283.out
        go_wp2_with (first | (go_at_call 27; (with_reducible refine (laws_eqMemory.calls kj73 _ _ t298 _ _ t301 _ _ t304 t307 t308 _ _ t272 _ _ t275 _ _ t278 t281 t282 t327 _ ?side1 ?side2 ?side3 ?side4 ?side5 ?side6 ?side7 ?side8 ?side9 ?side10 ?side11 ?side12 A91.out).mono ?_); (case side1 => repeat (first | exact (Kd.R_reads' HO_310000.out).2.2 | (with_reducible refine Kd.C_alloc ?_ _) | (with_reducible refine Kd.C_drewN ?_ _) | (with_reducible refine Kd.C_drew ?_))); (case side2 => exact (Kd.R_reads' HO_310000.out).2.1); (case side3 => repeat (first | exact (Kd.R_reads' HO_310001.out).2.2 | (with_reducible refine Kd.C_alloc ?_ _) | (with_reducible refine Kd.C_drewN ?_ _) | (with_reducible refine Kd.C_drew ?_))); (case side4 => exact (Kd.R_reads' HO_310001.out).2.1); (case side5 => repeat (first | exact (Kd.R_reads' HO_310002.out).2.2 | (with_reducible refine Kd.C_alloc ?_ _) | (with_reducible refine Kd.C_drewN ?_ _) | (with_reducible refine Kd.C_drew ?_))); (case side6 => exact (Kd.R_reads' HO_310002.out).2.1); (case side7 => repeat (first | exact (Kd.R_reads' HO_284000.out).2.2 | (with_reducible refine Kd.C_alloc ?_ _) | (with_reducible refine Kd.C_drewN ?_ _) | (with_reducible refine Kd.C_drew ?_))); (case side8 => exact (Kd.R_reads' HO_284000.out).2.1); (case side9 => repeat (first | exact (Kd.R_reads' HO_284001.out).2.2 | (with_reducible refine Kd.C_alloc ?_ _) | (with_reducible refine Kd.C_drewN ?_ _) | (with_reducible refine Kd.C_drew ?_))); (case side10 => exact (Kd.R_reads' HO_284001.out).2.1); (case side11 => repeat (first | exact (Kd.R_reads' HO_284002.out).2.2 | (with_reducible refine Kd.C_alloc ?_ _) | (with_reducible refine Kd.C_drewN ?_ _) | (with_reducible refine Kd.C_drew ?_))); (case side12 => exact (Kd.R_reads' HO_284002.out).2.1); rintro e w101 ⟨rfl, hb⟩; replace HO_284000 := As.mk (Kd.R_below (by (with_reducible repeat (first | apply Kd.R_alloc | apply Kd.R_drewN | apply Kd.R_drew)); exact HO_284000.out) hb); replace HO_284001 := As.mk (Kd.R_below (by (with_reducible repeat (first | apply Kd.R_alloc | apply Kd.R_drewN | apply Kd.R_drew)); exact HO_284001.out) hb); replace HO_284002 := As.mk (Kd.R_below (by (with_reducible repeat (first | apply Kd.R_alloc | apply Kd.R_drewN | apply Kd.R_drew)); exact HO_284002.out) hb); replace HO_296000 := As.mk (Kd.R_below (by (with_reducible repeat (first | apply Kd.R_alloc | apply Kd.R_drewN | apply Kd.R_drew)); exact HO_296000.out) hb); replace HO_296001 := As.mk (Kd.R_below (by (with_reducible repeat (first | apply Kd.R_alloc | apply Kd.R_drewN | apply Kd.R_drew)); exact HO_296001.out) hb); replace HO_296002 := As.mk (Kd.R_below (by (with_reducible repeat (first | apply Kd.R_alloc | apply Kd.R_drewN | apply Kd.R_drew)); exact HO_296002.out) hb); replace HO_310000 := As.mk (Kd.R_below (by (with_reducible repeat (first | apply Kd.R_alloc | apply Kd.R_drewN | apply Kd.R_drew)); exact HO_310000.out) hb); replace HO_310001 := As.mk (Kd.R_below (by (with_reducible repeat (first | apply Kd.R_alloc | apply Kd.R_drewN | apply Kd.R_drew)); exact HO_310001.out) hb); replace HO_310002 := As.mk (Kd.R_below (by (with_reducible repeat (first | apply Kd.R_alloc | apply Kd.R_drewN | apply Kd.R_drew)); exact HO_310002.out) hb); replace BK256 := As.mk (blk_below (bx BK256.out) hb); replace BK257 := As.mk (blk_below (bx BK257.out) hb); replace BK283 := As.mk (blk_below (bx BK283.out) hb); replace BK295 := As.mk (blk_below (bx BK295.out) hb); replace BK309 := As.mk (blk_below (bx BK309.out) hb); replace HB := As.mk (below_step (be w) hb); (try clear hb); (try clear hb2); (try clear hk); (try clear hi)))
        go_meet
        case rel => exact ⟨_, (!t327), (by first | rfl | (simp; done) | (simp [*]; done)), H', ⟨by have := HJ4.out; have := HJ18.out; have := HJ73.out; first | omega | exact Nat.le_refl _⟩, ⟨by (with_reducible repeat (first | apply Kd.R_alloc | apply Kd.R_drewN | apply Kd.R_drew)); exact HO_284000.out⟩, ⟨by (with_reducible repeat (first | apply Kd.R_alloc | apply Kd.R_drewN | apply Kd.R_drew)); exact HO_284001.out⟩, ⟨by (with_reducible repeat (first | apply Kd.R_alloc | apply Kd.R_drewN | apply Kd.R_drew)); exact HO_284002.out⟩, ⟨by (with_reducible repeat (first | apply Kd.R_alloc | apply Kd.R_drewN | apply Kd.R_drew)); exact HO_296000.out⟩, ⟨by (with_reducible repeat (first | apply Kd.R_alloc | apply Kd.R_drewN | apply Kd.R_drew)); exact HO_296001.out⟩, ⟨by (with_reducible repeat (first | apply Kd.R_alloc | apply Kd.R_drewN | apply Kd.R_drew)); exact HO_296002.out⟩, ⟨by (with_reducible repeat (first | apply Kd.R_alloc | apply Kd.R_drewN | apply Kd.R_drew)); exact HO_310000.out⟩, ⟨by (with_reducible repeat (first | apply Kd.R_alloc | apply Kd.R_drewN | apply Kd.R_drew)); exact HO_310001.out⟩, ⟨by (with_reducible repeat (first | apply Kd.R_alloc | apply Kd.R_drewN | apply Kd.R_drew)); exact HO_310002.out⟩, ⟨bx BK256.out⟩, ⟨bx BK257.out⟩, ⟨bx BK283.out⟩, ⟨bx BK295.out⟩, ⟨bx BK309.out⟩, ⟨be w⟩⟩
       case rest =>
        clear HC83
        (try clear hcz67_0); (try clear hcz67_1); (try clear hcz67_2); (try clear hcz67_3); (try clear hcz67_4); (try clear hcz69_0); (try clear hcz69_1); (try clear hcz69_2); (try clear hcz69_3); (try clear hcz69_4); (try clear hcz88_0); (try clear hcz88_1); (try clear hcz88_2); (try clear hcz88_3); (try clear hcz88_4); (try clear hfz67_0); (try clear hfz67_1); (try clear hfz67_2); (try clear hfz67_3); (try clear hfz67_4); (try clear hfz69_0); (try clear hfz69_1); (try clear hfz69_2); (try clear hfz69_3); (try clear hfz69_4); (try clear hfz88_0); (try clear hfz88_1); (try clear hfz88_2); (try clear hfz88_3); (try clear hfz88_4)
        obtain ⟨kq, x52_82, rfl, HA, HJ82, HO_284000, HO_284001, HO_284002, HO_296000, HO_296001, HO_296002, HO_310000, HO_310001, HO_310002, BK256, BK257, BK283, BK295, BK309, HB⟩ := hcut
        have hl296000_82 := (Kd.R_reads' HO_296000.out).1
        rw [hl296000_82] at HO_296000
        (try simp only [hl296000_82])
        (try simp only [hl296000_82] at BK256)
        (try simp only [hl296000_82] at BK257)
        (try simp only [hl296000_82] at BK283)
        (try simp only [hl296000_82] at BK295)
        (try simp only [hl296000_82] at BK309)
        (try simp only [hl296000_82] at HO_284000)
        (try simp only [hl296000_82] at HO_284001)
        (try simp only [hl296000_82] at HO_284002)
        (try simp only [hl296000_82] at HO_296001)
        (try simp only [hl296000_82] at HO_296002)
        (try simp only [hl296000_82] at HO_310000)
        (try simp only [hl296000_82] at HO_310001)
        (try simp only [hl296000_82] at HO_310002)
        have hl296001_82 := (Kd.R_reads' HO_296001.out).1
        rw [hl296001_82] at HO_296001
        (try simp only [hl296001_82])
        (try simp only [hl296001_82] at BK256)
        (try simp only [hl296001_82] at BK257)
        (try simp only [hl296001_82] at BK283)
        (try simp only [hl296001_82] at BK295)
        (try simp only [hl296001_82] at BK309)
        (try simp only [hl296001_82] at HO_284000)
        (try simp only [hl296001_82] at HO_284001)
        (try simp only [hl296001_82] at HO_284002)
        (try simp only [hl296001_82] at HO_296000)
        (try simp only [hl296001_82] at HO_296002)
        (try simp only [hl296001_82] at HO_310000)
        (try simp only [hl296001_82] at HO_310001)
        (try simp only [hl296001_82] at HO_310002)
        have hl296002_82 := (Kd.R_reads' HO_296002.out).1
        rw [hl296002_82] at HO_296002
        (try simp only [hl296002_82])
        (try simp only [hl296002_82] at BK256)
        (try simp only [hl296002_82] at BK257)
        (try simp only [hl296002_82] at BK283)
        (try simp only [hl296002_82] at BK295)
        (try simp only [hl296002_82] at BK309)
        (try simp only [hl296002_82] at HO_284000)
        (try simp only [hl296002_82] at HO_284001)
        (try simp only [hl296002_82] at HO_284002)
        (try simp only [hl296002_82] at HO_296000)
        (try simp only [hl296002_82] at HO_296001)
        (try simp only [hl296002_82] at HO_310000)
        (try simp only [hl296002_82] at HO_310001)
        (try simp only [hl296002_82] at HO_310002)
        cases kq with
        | zero => exact absurd HA.out (by simp [laws_FnExactWritten.j3])
        | succ kj82 =>
         have H := HA.out
         clear HA
         simp only [laws_FnExactWritten.j3] at H
         have HC102 := As.mk H
         clear H
         go_upto_if 52 with (fail)
         go_cut [] (fun wc => ∃ (kq : Nat), As (laws_FnExactWritten.j4 kq a2 l0_0 l0_1 l0_2 a0_3 a0_4 a1_0 a1_1 t272 t275 t278 t281 t282 t298 t301 t304 t307 t308 = some r) ∧ As (kq ≤ kj82) ∧ As (Kd.R k93 93 wc w.heap.size (fun k_ => some k_ ≠ ((.slice Ao42 t324.length co42) : Value).ownBlock ∧ some k_ ≠ ((.slice Ao55 t298.length co55) : Value).ownBlock) (.slice Ao29 t272.length co29) t272) ∧ As (Kd.R (Kd.int .i64) 3 wc w.heap.size (fun k_ => some k_ ≠ ((.slice Ao33 t278.length co33) : Value).ownBlock ∧ some k_ ≠ ((.slice Ao47 t325.length co47) : Value).ownBlock ∧ some k_ ≠ ((.slice Ao48 t326.length co48) : Value).ownBlock ∧ some k_ ≠ ((.slice Ao57 t301.length co57) : Value).ownBlock ∧ some k_ ≠ ((.slice Ao59 t304.length co59) : Value).ownBlock) (.slice Ao31 t275.length co31) t275) ∧ As (Kd.R (Kd.int .i64) 3 wc w.heap.size (fun k_ => some k_ ≠ ((.slice Ao31 t275.length co31) : Value).ownBlock ∧ some k_ ≠ ((.slice Ao47 t325.length co47) : Value).ownBlock ∧ some k_ ≠ ((.slice Ao48 t326.length co48) : Value).ownBlock ∧ some k_ ≠ ((.slice Ao57 t301.length co57) : Value).ownBlock ∧ some k_ ≠ ((.slice Ao59 t304.length co59) : Value).ownBlock) (.slice Ao33 t278.length co33) t278) ∧ As (Kd.R k93 93 wc w.heap.size (fun k_ => some k_ ≠ ((.slice Ao29 t272.length co29) : Value).ownBlock ∧ some k_ ≠ ((.slice Ao55 t298.length co55) : Value).ownBlock) (.slice Ao42 t324.length co42) t324) ∧ As (Kd.R (Kd.int .i64) 3 wc w.heap.size (fun k_ => some k_ ≠ ((.slice Ao31 t275.length co31) : Value).ownBlock ∧ some k_ ≠ ((.slice Ao33 t278.length co33) : Value).ownBlock ∧ some k_ ≠ ((.slice Ao48 t326.length co48) : Value).ownBlock ∧ some k_ ≠ ((.slice Ao57 t301.length co57) : Value).ownBlock ∧ some k_ ≠ ((.slice Ao59 t304.length co59) : Value).ownBlock) (.slice Ao47 t325.length co47) t325) ∧ As (Kd.R (Kd.int .i64) 3 wc w.heap.size (fun k_ => some k_ ≠ ((.slice Ao31 t275.length co31) : Value).ownBlock ∧ some k_ ≠ ((.slice Ao33 t278.length co33) : Value).ownBlock ∧ some k_ ≠ ((.slice Ao47 t325.length co47) : Value).ownBlock ∧ some k_ ≠ ((.slice Ao57 t301.length co57) : Value).ownBlock ∧ some k_ ≠ ((.slice Ao59 t304.length co59) : Value).ownBlock) (.slice Ao48 t326.length co48) t326) ∧ As (Kd.R k93 93 wc w.heap.size (fun k_ => some k_ ≠ ((.slice Ao29 t272.length co29) : Value).ownBlock ∧ some k_ ≠ ((.slice Ao42 t324.length co42) : Value).ownBlock) (.slice Ao55 t298.length co55) t298) ∧ As (Kd.R (Kd.int .i64) 3 wc w.heap.size (fun k_ => some k_ ≠ ((.slice Ao31 t275.length co31) : Value).ownBlock ∧ some k_ ≠ ((.slice Ao33 t278.length co33) : Value).ownBlock ∧ some k_ ≠ ((.slice Ao47 t325.length co47) : Value).ownBlock ∧ some k_ ≠ ((.slice Ao48 t326.length co48) : Value).ownBlock ∧ some k_ ≠ ((.slice Ao59 t304.length co59) : Value).ownBlock) (.slice Ao57 t301.length co57) t301) ∧ As (Kd.R (Kd.int .i64) 3 wc w.heap.size (fun k_ => some k_ ≠ ((.slice Ao31 t275.length co31) : Value).ownBlock ∧ some k_ ≠ ((.slice Ao33 t278.length co33) : Value).ownBlock ∧ some k_ ≠ ((.slice Ao47 t325.length co47) : Value).ownBlock ∧ some k_ ≠ ((.slice Ao48 t326.length co48) : Value).ownBlock ∧ some k_ ≠ ((.slice Ao57 t301.length co57) : Value).ownBlock) (.slice Ao59 t304.length co59) t304) ∧ As (wc.heap[gb256]? = some (.cells #[(.slice A0_0 l0_0.length c0_0), (.slice A0_1 l0_1.length c0_1), (.slice A0_2 l0_2.length c0_2), .int .i64 a0_3, .int .i64 a0_4] 47 (0, 0))) ∧ As (wc.heap[gb257]? = some (.cells #[.int .i64 a1_0, .int .i64 a1_1] 48 (0, 0))) ∧ As (wc.heap[gb283]? = some (.cells #[(.slice Ao29 t272.length co29), (.slice Ao31 t275.length co31), (.slice Ao33 t278.length co33), .int .i64 t281, .int .i64 t282] 34 (0, 0))) ∧ As (wc.heap[gb295]? = some (.cells #[(.slice Ao42 t324.length co42), (.slice Ao47 t325.length co47), (.slice Ao48 t326.length co48), .int .i64 t293, .int .i64 t294] 34 (0, 0))) ∧ As (wc.heap[gb309]? = some (.cells #[(.slice Ao55 t298.length co55), (.slice Ao57 t301.length co57), (.slice Ao59 t304.length co59), .int .i64 t307, .int .i64 t308] 34 (0, 0))) ∧ As (Below w.heap.size w wc))
         case first =>
          have H := HC102.out
          clear HC102
          by_cases c103 : x52_82 = true
          ·
           subst c103
           rw [if_pos rfl] at H
           exact absurd H (by rw [hrt.out]; simp)
          replace c103 := Bool.eq_false_iff.mpr c103
          subst c103
          rw [if_neg (show ¬ (false = true) by decide)] at H
          have H' := As.mk H
          clear H
          go_wp2
          go_meet
          case rel => exact ⟨_, H', ⟨by have := HJ4.out; have := HJ18.out; have := HJ73.out; have := HJ82.out; first | omega | exact Nat.le_refl _⟩, ⟨by (try simp only [hl296000_82]); (try simp only [hl296001_82]); (try simp only [hl296002_82]); (with_reducible repeat (first | apply Kd.R_alloc | apply Kd.R_drewN | apply Kd.R_drew)); exact HO_284000.out⟩, ⟨by (try simp only [hl296000_82]); (try simp only [hl296001_82]); (try simp only [hl296002_82]); (with_reducible repeat (first | apply Kd.R_alloc | apply Kd.R_drewN | apply Kd.R_drew)); exact HO_284001.out⟩, ⟨by (try simp only [hl296000_82]); (try simp only [hl296001_82]); (try simp only [hl296002_82]); (with_reducible repeat (first | apply Kd.R_alloc | apply Kd.R_drewN | apply Kd.R_drew)); exact HO_284002.out⟩, ⟨by (try simp only [hl296000_82]); (try simp only [hl296001_82]); (try simp only [hl296002_82]); (with_reducible repeat (first | apply Kd.R_alloc | apply Kd.R_drewN | apply Kd.R_drew)); exact HO_296000.out⟩, ⟨by (try simp only [hl296000_82]); (try simp only [hl296001_82]); (try simp only [hl296002_82]); (with_reducible repeat (first | apply Kd.R_alloc | apply Kd.R_drewN | apply Kd.R_drew)); exact HO_296001.out⟩, ⟨by (try simp only [hl296000_82]); (try simp only [hl296001_82]); (try simp only [hl296002_82]); (with_reducible repeat (first | apply Kd.R_alloc | apply Kd.R_drewN | apply Kd.R_drew)); exact HO_296002.out⟩, ⟨by (try simp only [hl296000_82]); (try simp only [hl296001_82]); (try simp only [hl296002_82]); (with_reducible repeat (first | apply Kd.R_alloc | apply Kd.R_drewN | apply Kd.R_drew)); exact HO_310000.out⟩, ⟨by (try simp only [hl296000_82]); (try simp only [hl296001_82]); (try simp only [hl296002_82]); (with_reducible repeat (first | apply Kd.R_alloc | apply Kd.R_drewN | apply Kd.R_drew)); exact HO_310001.out⟩, ⟨by (try simp only [hl296000_82]); (try simp only [hl296001_82]); (try simp only [hl296002_82]); (with_reducible repeat (first | apply Kd.R_alloc | apply Kd.R_drewN | apply Kd.R_drew)); exact HO_310002.out⟩, ⟨by (try simp only [hl296000_82]); (try simp only [hl296001_82]); (try simp only [hl296002_82]); exact bx BK256.out⟩, ⟨by (try simp only [hl296000_82]); (try simp only [hl296001_82]); (try simp only [hl296002_82]); exact bx BK257.out⟩, ⟨by (try simp only [hl296000_82]); (try simp only [hl296001_82]); (try simp only [hl296002_82]); exact bx BK283.out⟩, ⟨by (try simp only [hl296000_82]); (try simp only [hl296001_82]); (try simp only [hl296002_82]); exact bx BK295.out⟩, ⟨by (try simp only [hl296000_82]); (try simp only [hl296001_82]); (try simp only [hl296002_82]); exact bx BK309.out⟩, ⟨be w⟩⟩
         case rest =>
          clear HC102
          (try clear hcz67_0); (try clear hcz67_1); (try clear hcz67_2); (try clear hcz67_3); (try clear hcz67_4); (try clear hcz69_0); (try clear hcz69_1); (try clear hcz69_2); (try clear hcz69_3); (try clear hcz69_4); (try clear hcz88_0); (try clear hcz88_1); (try clear hcz88_2); (try clear hcz88_3); (try clear hcz88_4); (try clear hfz67_0); (try clear hfz67_1); (try clear hfz67_2); (try clear hfz67_3); (try clear hfz67_4); (try clear hfz69_0); (try clear hfz69_1); (try clear hfz69_2); (try clear hfz69_3); (try clear hfz69_4); (try clear hfz88_0); (try clear hfz88_1); (try clear hfz88_2); (try clear hfz88_3); (try clear hfz88_4)
          obtain ⟨kq, HA, HJ101, HO_284000, HO_284001, HO_284002, HO_296000, HO_296001, HO_296002, HO_310000, HO_310001, HO_310002, BK256, BK257, BK283, BK295, BK309, HB⟩ := hcut
          cases kq with
          | zero => exact absurd HA.out (by simp [laws_FnExactWritten.j4])
          | succ kj101 =>
           have H := HA.out
           clear HA
           simp only [laws_FnExactWritten.j4] at H
           obtain ⟨⟨t328, t329, t330, t331⟩, A1040, H⟩ := Option.bind_eq_some_iff.mp H
           try dsimp only at H
           have A104 := As.mk A1040
           clear A1040
           obtain ⟨t332, A1050, H⟩ := Option.bind_eq_some_iff.mp H
           try dsimp only at H
           have A105 := As.mk A1050
           clear A1050
           have HC106 := As.mk H
           clear H
           have hnb107 := NB309_256.out
           have hnc107 := NB256_309.out
           have hnb108 := NB309_257.out
           have hnc108 := NB257_309.out
           have hnb109 := NB309_283.out
           have hnc109 := NB283_309.out
           have hnb110 := NB309_295.out
           have hnc110 := NB295_309.out
           obtain ⟨hcz111_0, hcz111_1, hcz111_2, hcz111_3, hcz111_4, hfz111_0, hfz111_1, hfz111_2, hfz111_3, hfz111_4⟩ := cl5 BK309.out
           go_upto_if 60 with (first | ((with_reducible refine gate_callee (f := 28) rfl ?_); refine goesL_ (some 55) rfl rfl Try.func28 (by kernel_rfl) rfl #[.agg #[.slice Ao55 t298.length co55, .slice Ao57 t301.length co57, .slice Ao59 t304.length co59, .int .i64 t307, .int .i64 t308], .int .i64 1] rfl (by (try simp only [lm]); first | done | rfl | (simp only [List.length_drop, List.length_take]; rfl)) ?_; (with_reducible refine (laws_markMemory.calls kj101 (fun k_ => some k_ = (.slice Ao55 t298.length co55 : Value).ownBlock) (.slice Ao55 t298.length co55) t298 (fun k_ => some k_ = (.slice Ao57 t301.length co57 : Value).ownBlock) (.slice Ao57 t301.length co57) t301 (fun k_ => some k_ = (.slice Ao59 t304.length co59 : Value).ownBlock) (.slice Ao59 t304.length co59) t304 t307 t308 1 t328 t329 t330 t331 w _ ?side1 ?side2 ?side3 ?side4 ?side5 ?side6 A104.out).mono ?_); (case side1 => repeat (first | (with_reducible first | exact HB.out | apply below_alloc | apply pw_below_drewN | apply below_drew1 | refine below_set ?_ GE256.out | refine below_set ?_ GE257.out | refine below_set ?_ GE283.out | refine below_set ?_ GE295.out | refine below_set ?_ GE309.out) | exact HB.out)); (case side2 => exact Kd.R_tight rfl HO_310000.out); (case side3 => exact Kd.R_tight rfl HO_310001.out); (case side4 => exact fun k_ e_ => (HO_310001.out.1 k_ e_.symm).2.2.2.2); (case side5 => exact Kd.R_tight rfl HO_310002.out); (case side6 => exact fun k_ e_ => (HO_310002.out.1 k_ e_.symm).2.2.2.2); rintro e w112 ⟨rfl, hy0, hy1, hy2, hb, hkp⟩; refine ⟨_, rfl, ?_⟩; replace HO_284000 := As.mk (Kd.R_mono (ok' := fun k_ => some k_ ≠ (.slice Ao42 t324.length co42 : Value).ownBlock ∧ some k_ ≠ (.slice Ao55 t298.length co55 : Value).ownBlock) (Kd.R_keptB ((Kd.R_apart' (Kd.R_apart' HO_284000.out (Kd.R_typed HO_310001.out) (by decide)) (Kd.R_typed HO_310002.out) (by decide))) hkp (fun k_ hk_ hs_ => Or.elim hs_ (fun e_ => (hk_.1.1.2) e_) (fun e_ => Or.elim e_ (fun e_ => (hk_.1.2) e_) (fun e_ => (hk_.2) e_)))) (fun k_ hk_ => ⟨hk_.1.1.1.1, hk_.1.1.1.2⟩)); replace HO_284001 := As.mk (Kd.R_mono (ok' := fun k_ => some k_ ≠ (.slice Ao33 t278.length co33 : Value).ownBlock ∧ some k_ ≠ (.slice Ao47 t325.length co47 : Value).ownBlock ∧ some k_ ≠ (.slice Ao48 t326.length co48 : Value).ownBlock ∧ some k_ ≠ (.slice Ao57 t301.length co57 : Value).ownBlock ∧ some k_ ≠ (.slice Ao59 t304.length co59 : Value).ownBlock) (Kd.R_keptB ((Kd.R_apart' HO_284001.out (Kd.R_typed HO_310000.out) (by decide))) hkp (fun k_ hk_ hs_ => Or.elim hs_ (fun e_ => (hk_.2) e_) (fun e_ => Or.elim e_ (fun e_ => (hk_.1.2.2.2.1) e_) (fun e_ => (hk_.1.2.2.2.2) e_)))) (fun k_ hk_ => ⟨hk_.1.1.1, hk_.1.1.2.1, hk_.1.1.2.2.1, hk_.1.1.2.2.2.1, hk_.1.1.2.2.2.2⟩)); replace HO_284002 := As.mk (Kd.R_mono (ok' := fun k_ => some k_ ≠ (.slice Ao31 t275.length co31 : Value).ownBlock ∧ some k_ ≠ (.slice Ao47 t325.length co47 : Value).ownBlock ∧ some k_ ≠ (.slice Ao48 t326.length co48 : Value).ownBlock ∧ some k_ ≠ (.slice Ao57 t301.length co57 : Value).ownBlock ∧ some k_ ≠ (.slice Ao59 t304.length co59 : Value).ownBlock) (Kd.R_keptB ((Kd.R_apart' HO_284002.out (Kd.R_typed HO_310000.out) (by decide))) hkp (fun k_ hk_ hs_ => Or.elim hs_ (fun e_ => (hk_.2) e_) (fun e_ => Or.elim e_ (fun e_ => (hk_.1.2.2.2.1) e_) (fun e_ => (hk_.1.2.2.2.2) e_)))) (fun k_ hk_ => ⟨hk_.1.1.1, hk_.1.1.2.1, hk_.1.1.2.2.1, hk_.1.1.2.2.2.1, hk_.1.1.2.2.2.2⟩)); replace HO_296000 := As.mk (Kd.R_mono (ok' := fun k_ => some k_ ≠ (.slice Ao29 t272.length co29 : Value).ownBlock ∧ some k_ ≠ (.slice Ao55 t298.length co55 : Value).ownBlock) (Kd.R_keptB ((Kd.R_apart' (Kd.R_apart' HO_296000.out (Kd.R_typed HO_310001.out) (by decide)) (Kd.R_typed HO_310002.out) (by decide))) hkp (fun k_ hk_ hs_ => Or.elim hs_ (fun e_ => (hk_.1.1.2) e_) (fun e_ => Or.elim e_ (fun e_ => (hk_.1.2) e_) (fun e_ => (hk_.2) e_)))) (fun k_ hk_ => ⟨hk_.1.1.1.1, hk_.1.1.1.2⟩)); replace HO_296001 := As.mk (Kd.R_mono (ok' := fun k_ => some k_ ≠ (.slice Ao31 t275.length co31 : Value).ownBlock ∧ some k_ ≠ (.slice Ao33 t278.length co33 : Value).ownBlock ∧ some k_ ≠ (.slice Ao48 t326.length co48 : Value).ownBlock ∧ some k_ ≠ (.slice Ao57 t301.length co57 : Value).ownBlock ∧ some k_ ≠ (.slice Ao59 t304.length co59 : Value).ownBlock) (Kd.R_keptB ((Kd.R_apart' HO_296001.out (Kd.R_typed HO_310000.out) (by decide))) hkp (fun k_ hk_ hs_ => Or.elim hs_ (fun e_ => (hk_.2) e_) (fun e_ => Or.elim e_ (fun e_ => (hk_.1.2.2.2.1) e_) (fun e_ => (hk_.1.2.2.2.2) e_)))) (fun k_ hk_ => ⟨hk_.1.1.1, hk_.1.1.2.1, hk_.1.1.2.2.1, hk_.1.1.2.2.2.1, hk_.1.1.2.2.2.2⟩)); replace HO_296002 := As.mk (Kd.R_mono (ok' := fun k_ => some k_ ≠ (.slice Ao31 t275.length co31 : Value).ownBlock ∧ some k_ ≠ (.slice Ao33 t278.length co33 : Value).ownBlock ∧ some k_ ≠ (.slice Ao47 t325.length co47 : Value).ownBlock ∧ some k_ ≠ (.slice Ao57 t301.length co57 : Value).ownBlock ∧ some k_ ≠ (.slice Ao59 t304.length co59 : Value).ownBlock) (Kd.R_keptB ((Kd.R_apart' HO_296002.out (Kd.R_typed HO_310000.out) (by decide))) hkp (fun k_ hk_ hs_ => Or.elim hs_ (fun e_ => (hk_.2) e_) (fun e_ => Or.elim e_ (fun e_ => (hk_.1.2.2.2.1) e_) (fun e_ => (hk_.1.2.2.2.2) e_)))) (fun k_ hk_ => ⟨hk_.1.1.1, hk_.1.1.2.1, hk_.1.1.2.2.1, hk_.1.1.2.2.2.1, hk_.1.1.2.2.2.2⟩)); replace BK256 := As.mk (blk_kept (bx BK256.out) hkp (fun hs_ => Or.elim hs_ (fun e_ => (fun e_ => (Kd.R_ne HO_310000.out BK256.out (by decide)) e_) e_) (fun e_ => Or.elim e_ (fun e_ => (fun e_ => (Kd.R_ne HO_310001.out BK256.out (by decide)) e_) e_) (fun e_ => (fun e_ => (Kd.R_ne HO_310002.out BK256.out (by decide)) e_) e_)))); replace BK257 := As.mk (blk_kept (bx BK257.out) hkp (fun hs_ => Or.elim hs_ (fun e_ => (fun e_ => (Kd.R_ne HO_310000.out BK257.out (by decide)) e_) e_) (fun e_ => Or.elim e_ (fun e_ => (fun e_ => (Kd.R_ne HO_310001.out BK257.out (by decide)) e_) e_) (fun e_ => (fun e_ => (Kd.R_ne HO_310002.out BK257.out (by decide)) e_) e_)))); replace BK283 := As.mk (blk_kept (bx BK283.out) hkp (fun hs_ => Or.elim hs_ (fun e_ => (fun e_ => (Kd.R_ne HO_310000.out BK283.out (by decide)) e_) e_) (fun e_ => Or.elim e_ (fun e_ => (fun e_ => (Kd.R_ne HO_310001.out BK283.out (by decide)) e_) e_) (fun e_ => (fun e_ => (Kd.R_ne HO_310002.out BK283.out (by decide)) e_) e_)))); replace BK295 := As.mk (blk_kept (bx BK295.out) hkp (fun hs_ => Or.elim hs_ (fun e_ => (fun e_ => (Kd.R_ne HO_310000.out BK295.out (by decide)) e_) e_) (fun e_ => Or.elim e_ (fun e_ => (fun e_ => (Kd.R_ne HO_310001.out BK295.out (by decide)) e_) e_) (fun e_ => (fun e_ => (Kd.R_ne HO_310002.out BK295.out (by decide)) e_) e_)))); replace BK309 := As.mk (blk_kept (bx BK309.out) hkp (fun hs_ => Or.elim hs_ (fun e_ => (fun e_ => (Kd.R_ne HO_310000.out BK309.out (by decide)) e_) e_) (fun e_ => Or.elim e_ (fun e_ => (fun e_ => (Kd.R_ne HO_310001.out BK309.out (by decide)) e_) e_) (fun e_ => (fun e_ => (Kd.R_ne HO_310002.out BK309.out (by decide)) e_) e_)))); replace HO_310000 := As.mk (Kd.R_reok rfl hy0 (fun k_ e_ => HO_310000.out.1 k_ e_)); replace HO_310001 := As.mk (Kd.R_reok rfl hy1 (fun k_ e_ => HO_310001.out.1 k_ e_)); replace HO_310002 := As.mk (Kd.R_reok rfl hy2 (fun k_ e_ => HO_310002.out.1 k_ e_)); replace HB := As.mk (hb); (try clear hb); (try clear hkp); (try clear hy0); (try clear hy1); (try clear hy2); obtain ⟨hcz113_0, hcz113_1, hcz113_2, hcz113_3, hcz113_4, hfz113_0, hfz113_1, hfz113_2, hfz113_3, hfz113_4⟩ := cl5 BK309.out) | ((with_reducible refine gate_callee (f := 29) rfl ?_); refine goesL_ (some 58) rfl rfl Try.func29 (by kernel_rfl) rfl #[.agg #[.slice Ao55 t329.length co55, .slice Ao57 t330.length co57, .slice Ao59 t331.length co59, .int .i64 t307, .int .i64 t308], .int .i64 1] rfl (by (try simp only [lm]); first | done | (rw [show t329.length = t298.length from (Kd.R_reads' HO_310000.out).1.symm, show t330.length = t301.length from (Kd.R_reads' HO_310001.out).1.symm, show t331.length = t304.length from (Kd.R_reads' HO_310002.out).1.symm] <;> rfl) | rfl | (simp only [List.length_drop, List.length_take]; rfl)) ?_; (with_reducible refine (laws_heldMemory.calls kj101 _ _ t329 _ _ t330 _ _ t331 t307 t308 1 t332 _ ?side1 ?side2 ?side3 ?side4 ?side5 ?side6 A105.out).mono ?_); (case side1 => repeat (first | exact (Kd.R_reads' HO_310000.out).2.2 | (with_reducible refine Kd.C_alloc ?_ _) | (with_reducible refine Kd.C_drewN ?_ _) | (with_reducible refine Kd.C_drew ?_))); (case side2 => rw [show t329.length = t298.length from (Kd.R_reads' HO_310000.out).1.symm]; exact (Kd.R_reads' HO_310000.out).2.1); (case side3 => repeat (first | exact (Kd.R_reads' HO_310001.out).2.2 | (with_reducible refine Kd.C_alloc ?_ _) | (with_reducible refine Kd.C_drewN ?_ _) | (with_reducible refine Kd.C_drew ?_))); (case side4 => rw [show t330.length = t301.length from (Kd.R_reads' HO_310001.out).1.symm]; exact (Kd.R_reads' HO_310001.out).2.1); (case side5 => repeat (first | exact (Kd.R_reads' HO_310002.out).2.2 | (with_reducible refine Kd.C_alloc ?_ _) | (with_reducible refine Kd.C_drewN ?_ _) | (with_reducible refine Kd.C_drew ?_))); (case side6 => rw [show t331.length = t304.length from (Kd.R_reads' HO_310002.out).1.symm]; exact (Kd.R_reads' HO_310002.out).2.1); rintro e w114 ⟨rfl, hb⟩; refine ⟨_, rfl, ?_⟩; replace HO_284000 := As.mk (Kd.R_below (by (with_reducible repeat (first | apply Kd.R_alloc | apply Kd.R_drewN | apply Kd.R_drew)); exact HO_284000.out) hb); replace HO_284001 := As.mk (Kd.R_below (by (with_reducible repeat (first | apply Kd.R_alloc | apply Kd.R_drewN | apply Kd.R_drew)); exact HO_284001.out) hb); replace HO_284002 := As.mk (Kd.R_below (by (with_reducible repeat (first | apply Kd.R_alloc | apply Kd.R_drewN | apply Kd.R_drew)); exact HO_284002.out) hb); replace HO_296000 := As.mk (Kd.R_below (by (with_reducible repeat (first | apply Kd.R_alloc | apply Kd.R_drewN | apply Kd.R_drew)); exact HO_296000.out) hb); replace HO_296001 := As.mk (Kd.R_below (by (with_reducible repeat (first | apply Kd.R_alloc | apply Kd.R_drewN | apply Kd.R_drew)); exact HO_296001.out) hb); replace HO_296002 := As.mk (Kd.R_below (by (with_reducible repeat (first | apply Kd.R_alloc | apply Kd.R_drewN | apply Kd.R_drew)); exact HO_296002.out) hb); replace HO_310000 := As.mk (Kd.R_below (by (with_reducible repeat (first | apply Kd.R_alloc | apply Kd.R_drewN | apply Kd.R_drew)); exact HO_310000.out) hb); replace HO_310001 := As.mk (Kd.R_below (by (with_reducible repeat (first | apply Kd.R_alloc | apply Kd.R_drewN | apply Kd.R_drew)); exact HO_310001.out) hb); replace HO_310002 := As.mk (Kd.R_below (by (with_reducible repeat (first | apply Kd.R_alloc | apply Kd.R_drewN | apply Kd.R_drew)); exact HO_310002.out) hb); replace BK256 := As.mk (blk_below (bx BK256.out) hb); replace BK257 := As.mk (blk_below (bx BK257.out) hb); replace BK283 := As.mk (blk_below (bx BK283.out) hb); replace BK295 := As.mk (blk_below (bx BK295.out) hb); replace BK309 := As.mk (blk_below (bx BK309.out) hb); replace HB := As.mk (below_step (be w) hb); (try clear hb); (try clear hb2); (try clear hk); (try clear hi)))
           (try simp only [pk])
           go_cut [] (fun wc => ∃ (kq : Nat), As (laws_FnExactWritten.j5 kq a2 t328 t332 l0_0 l0_1 l0_2 a0_3 a0_4 a1_0 a1_1 t272 t275 t278 t281 t282 t329 t330 t331 t307 t308 = some r) ∧ As (kq ≤ kj101) ∧ As (Kd.R k93 93 wc w.heap.size (fun k_ => some k_ ≠ ((.slice Ao42 t324.length co42) : Value).ownBlock ∧ some k_ ≠ ((.slice Ao55 t298.length co55) : Value).ownBlock) (.slice Ao29 t272.length co29) t272) ∧ As (Kd.R (Kd.int .i64) 3 wc w.heap.size (fun k_ => some k_ ≠ ((.slice Ao33 t278.length co33) : Value).ownBlock ∧ some k_ ≠ ((.slice Ao47 t325.length co47) : Value).ownBlock ∧ some k_ ≠ ((.slice Ao48 t326.length co48) : Value).ownBlock ∧ some k_ ≠ ((.slice Ao57 t301.length co57) : Value).ownBlock ∧ some k_ ≠ ((.slice Ao59 t304.length co59) : Value).ownBlock) (.slice Ao31 t275.length co31) t275) ∧ As (Kd.R (Kd.int .i64) 3 wc w.heap.size (fun k_ => some k_ ≠ ((.slice Ao31 t275.length co31) : Value).ownBlock ∧ some k_ ≠ ((.slice Ao47 t325.length co47) : Value).ownBlock ∧ some k_ ≠ ((.slice Ao48 t326.length co48) : Value).ownBlock ∧ some k_ ≠ ((.slice Ao57 t301.length co57) : Value).ownBlock ∧ some k_ ≠ ((.slice Ao59 t304.length co59) : Value).ownBlock) (.slice Ao33 t278.length co33) t278) ∧ As (Kd.R k93 93 wc w.heap.size (fun k_ => some k_ ≠ ((.slice Ao29 t272.length co29) : Value).ownBlock ∧ some k_ ≠ ((.slice Ao55 t298.length co55) : Value).ownBlock) (.slice Ao42 t324.length co42) t324) ∧ As (Kd.R (Kd.int .i64) 3 wc w.heap.size (fun k_ => some k_ ≠ ((.slice Ao31 t275.length co31) : Value).ownBlock ∧ some k_ ≠ ((.slice Ao33 t278.length co33) : Value).ownBlock ∧ some k_ ≠ ((.slice Ao48 t326.length co48) : Value).ownBlock ∧ some k_ ≠ ((.slice Ao57 t301.length co57) : Value).ownBlock ∧ some k_ ≠ ((.slice Ao59 t304.length co59) : Value).ownBlock) (.slice Ao47 t325.length co47) t325) ∧ As (Kd.R (Kd.int .i64) 3 wc w.heap.size (fun k_ => some k_ ≠ ((.slice Ao31 t275.length co31) : Value).ownBlock ∧ some k_ ≠ ((.slice Ao33 t278.length co33) : Value).ownBlock ∧ some k_ ≠ ((.slice Ao47 t325.length co47) : Value).ownBlock ∧ some k_ ≠ ((.slice Ao57 t301.length co57) : Value).ownBlock ∧ some k_ ≠ ((.slice Ao59 t304.length co59) : Value).ownBlock) (.slice Ao48 t326.length co48) t326) ∧ As (Kd.R k93 93 wc w.heap.size (fun k_ => some k_ ≠ ((.slice Ao29 t272.length co29) : Value).ownBlock ∧ some k_ ≠ ((.slice Ao42 t324.length co42) : Value).ownBlock) (.slice Ao55 t298.length co55) t329) ∧ As (Kd.R (Kd.int .i64) 3 wc w.heap.size (fun k_ => some k_ ≠ ((.slice Ao31 t275.length co31) : Value).ownBlock ∧ some k_ ≠ ((.slice Ao33 t278.length co33) : Value).ownBlock ∧ some k_ ≠ ((.slice Ao47 t325.length co47) : Value).ownBlock ∧ some k_ ≠ ((.slice Ao48 t326.length co48) : Value).ownBlock ∧ some k_ ≠ ((.slice Ao59 t304.length co59) : Value).ownBlock) (.slice Ao57 t301.length co57) t330) ∧ As (Kd.R (Kd.int .i64) 3 wc w.heap.size (fun k_ => some k_ ≠ ((.slice Ao31 t275.length co31) : Value).ownBlock ∧ some k_ ≠ ((.slice Ao33 t278.length co33) : Value).ownBlock ∧ some k_ ≠ ((.slice Ao47 t325.length co47) : Value).ownBlock ∧ some k_ ≠ ((.slice Ao48 t326.length co48) : Value).ownBlock ∧ some k_ ≠ ((.slice Ao57 t301.length co57) : Value).ownBlock) (.slice Ao59 t304.length co59) t331) ∧ As (wc.heap[gb256]? = some (.cells #[(.slice A0_0 l0_0.length c0_0), (.slice A0_1 l0_1.length c0_1), (.slice A0_2 l0_2.length c0_2), .int .i64 a0_3, .int .i64 a0_4] 47 (0, 0))) ∧ As (wc.heap[gb257]? = some (.cells #[.int .i64 a1_0, .int .i64 a1_1] 48 (0, 0))) ∧ As (wc.heap[gb283]? = some (.cells #[(.slice Ao29 t272.length co29), (.slice Ao31 t275.length co31), (.slice Ao33 t278.length co33), .int .i64 t281, .int .i64 t282] 34 (0, 0))) ∧ As (wc.heap[gb295]? = some (.cells #[(.slice Ao42 t324.length co42), (.slice Ao47 t325.length co47), (.slice Ao48 t326.length co48), .int .i64 t293, .int .i64 t294] 34 (0, 0))) ∧ As (wc.heap[gb309]? = some (.cells #[(.slice Ao55 t298.length co55), (.slice Ao57 t301.length co57), (.slice Ao59 t304.length co59), .int .i64 t307, .int .i64 t308] 34 (0, 0))) ∧ As (Below w.heap.size w wc))
           case first =>
            have H := HC106.out
            clear HC106
            by_cases c115 : t332 < 0
            ·
             rw [if_pos c115] at H
             have c115b0 : decide (t332 < 0) = true := decide_eq_true c115
             clear c115
             (first | rw [c115b0] | (simp only [i64_w, i32_w]; rw [c115b0]) | skip)
             exact absurd H (by rw [hrt.out]; simp)
            rw [if_neg c115] at H
            have c115b0 : decide (t332 < 0) = false := decide_eq_false c115
            clear c115
            (first | rw [c115b0] | (simp only [i64_w, i32_w]; rw [c115b0]) | skip)
            have H' := As.mk H
            clear H
            go_wp2
            go_meet
            case rel => exact ⟨_, H', ⟨by have := HJ4.out; have := HJ18.out; have := HJ73.out; have := HJ82.out; have := HJ101.out; first | omega | exact Nat.le_refl _⟩, ⟨by (try simp only [hl296000_82]); (try simp only [hl296001_82]); (try simp only [hl296002_82]); (with_reducible repeat (first | apply Kd.R_alloc | apply Kd.R_drewN | apply Kd.R_drew)); exact HO_284000.out⟩, ⟨by (try simp only [hl296000_82]); (try simp only [hl296001_82]); (try simp only [hl296002_82]); (with_reducible repeat (first | apply Kd.R_alloc | apply Kd.R_drewN | apply Kd.R_drew)); exact HO_284001.out⟩, ⟨by (try simp only [hl296000_82]); (try simp only [hl296001_82]); (try simp only [hl296002_82]); (with_reducible repeat (first | apply Kd.R_alloc | apply Kd.R_drewN | apply Kd.R_drew)); exact HO_284002.out⟩, ⟨by (try simp only [hl296000_82]); (try simp only [hl296001_82]); (try simp only [hl296002_82]); (with_reducible repeat (first | apply Kd.R_alloc | apply Kd.R_drewN | apply Kd.R_drew)); exact HO_296000.out⟩, ⟨by (try simp only [hl296000_82]); (try simp only [hl296001_82]); (try simp only [hl296002_82]); (with_reducible repeat (first | apply Kd.R_alloc | apply Kd.R_drewN | apply Kd.R_drew)); exact HO_296001.out⟩, ⟨by (try simp only [hl296000_82]); (try simp only [hl296001_82]); (try simp only [hl296002_82]); (with_reducible repeat (first | apply Kd.R_alloc | apply Kd.R_drewN | apply Kd.R_drew)); exact HO_296002.out⟩, ⟨by (try simp only [hl296000_82]); (try simp only [hl296001_82]); (try simp only [hl296002_82]); (with_reducible repeat (first | apply Kd.R_alloc | apply Kd.R_drewN | apply Kd.R_drew)); exact HO_310000.out⟩, ⟨by (try simp only [hl296000_82]); (try simp only [hl296001_82]); (try simp only [hl296002_82]); (with_reducible repeat (first | apply Kd.R_alloc | apply Kd.R_drewN | apply Kd.R_drew)); exact HO_310001.out⟩, ⟨by (try simp only [hl296000_82]); (try simp only [hl296001_82]); (try simp only [hl296002_82]); (with_reducible repeat (first | apply Kd.R_alloc | apply Kd.R_drewN | apply Kd.R_drew)); exact HO_310002.out⟩, ⟨by (try simp only [hl296000_82]); (try simp only [hl296001_82]); (try simp only [hl296002_82]); exact bx BK256.out⟩, ⟨by (try simp only [hl296000_82]); (try simp only [hl296001_82]); (try simp only [hl296002_82]); exact bx BK257.out⟩, ⟨by (try simp only [hl296000_82]); (try simp only [hl296001_82]); (try simp only [hl296002_82]); exact bx BK283.out⟩, ⟨by (try simp only [hl296000_82]); (try simp only [hl296001_82]); (try simp only [hl296002_82]); exact bx BK295.out⟩, ⟨by (try simp only [hl296000_82]); (try simp only [hl296001_82]); (try simp only [hl296002_82]); exact bx BK309.out⟩, ⟨be w⟩⟩
           case rest =>
            clear HC106
            (try clear hcz111_0); (try clear hcz111_1); (try clear hcz111_2); (try clear hcz111_3); (try clear hcz111_4); (try clear hcz113_0); (try clear hcz113_1); (try clear hcz113_2); (try clear hcz113_3); (try clear hcz113_4); (try clear hcz67_0); (try clear hcz67_1); (try clear hcz67_2); (try clear hcz67_3); (try clear hcz67_4); (try clear hcz69_0); (try clear hcz69_1); (try clear hcz69_2); (try clear hcz69_3); (try clear hcz69_4); (try clear hcz88_0); (try clear hcz88_1); (try clear hcz88_2); (try clear hcz88_3); (try clear hcz88_4); (try clear hfz111_0); (try clear hfz111_1); (try clear hfz111_2); (try clear hfz111_3); (try clear hfz111_4); (try clear hfz113_0); (try clear hfz113_1); (try clear hfz113_2); (try clear hfz113_3); (try clear hfz113_4); (try clear hfz67_0); (try clear hfz67_1); (try clear hfz67_2); (try clear hfz67_3); (try clear hfz67_4); (try clear hfz69_0); (try clear hfz69_1); (try clear hfz69_2); (try clear hfz69_3); (try clear hfz69_4); (try clear hfz88_0); (try clear hfz88_1); (try clear hfz88_2); (try clear hfz88_3); (try clear hfz88_4)
            obtain ⟨kq, HA, HJ105, HO_284000, HO_284001, HO_284002, HO_296000, HO_296001, HO_296002, HO_310000, HO_310001, HO_310002, BK256, BK257, BK283, BK295, BK309, HB⟩ := hcut
            have hl310000_105 := (Kd.R_reads' HO_310000.out).1
            rw [hl310000_105] at HO_310000
            (try simp only [hl310000_105])
            (try simp only [hl310000_105] at BK256)
            (try simp only [hl310000_105] at BK257)
            (try simp only [hl310000_105] at BK283)
            (try simp only [hl310000_105] at BK295)
            (try simp only [hl310000_105] at BK309)
            (try simp only [hl310000_105] at HO_284000)
            (try simp only [hl310000_105] at HO_284001)
            (try simp only [hl310000_105] at HO_284002)
            (try simp only [hl310000_105] at HO_296000)
            (try simp only [hl310000_105] at HO_296001)
            (try simp only [hl310000_105] at HO_296002)
            (try simp only [hl310000_105] at HO_310001)
            (try simp only [hl310000_105] at HO_310002)
            have hl310001_105 := (Kd.R_reads' HO_310001.out).1
            rw [hl310001_105] at HO_310001
            (try simp only [hl310001_105])
            (try simp only [hl310001_105] at BK256)
            (try simp only [hl310001_105] at BK257)
            (try simp only [hl310001_105] at BK283)
            (try simp only [hl310001_105] at BK295)
            (try simp only [hl310001_105] at BK309)
            (try simp only [hl310001_105] at HO_284000)
            (try simp only [hl310001_105] at HO_284001)
            (try simp only [hl310001_105] at HO_284002)
            (try simp only [hl310001_105] at HO_296000)
            (try simp only [hl310001_105] at HO_296001)
            (try simp only [hl310001_105] at HO_296002)
            (try simp only [hl310001_105] at HO_310000)
            (try simp only [hl310001_105] at HO_310002)
            have hl310002_105 := (Kd.R_reads' HO_310002.out).1
            rw [hl310002_105] at HO_310002
            (try simp only [hl310002_105])
            (try simp only [hl310002_105] at BK256)
            (try simp only [hl310002_105] at BK257)
            (try simp only [hl310002_105] at BK283)
            (try simp only [hl310002_105] at BK295)
            (try simp only [hl310002_105] at BK309)
            (try simp only [hl310002_105] at HO_284000)
            (try simp only [hl310002_105] at HO_284001)
            (try simp only [hl310002_105] at HO_284002)
            (try simp only [hl310002_105] at HO_296000)
            (try simp only [hl310002_105] at HO_296001)
            (try simp only [hl310002_105] at HO_296002)
            (try simp only [hl310002_105] at HO_310000)
            (try simp only [hl310002_105] at HO_310001)
            cases kq with
            | zero => exact absurd HA.out (by simp [laws_FnExactWritten.j5])
            | succ kj105 =>
             have H := HA.out
             clear HA
             simp only [laws_FnExactWritten.j5] at H
             have HC116 := As.mk H
             clear H
             go_upto_if 63 with (fail)
             go_cut [] (fun wc => ∃ (kq : Nat), As (laws_FnExactWritten.j6 kq a2 t328 l0_0 l0_1 l0_2 a0_3 a0_4 a1_0 a1_1 t272 t275 t278 t281 t282 t329 t330 t331 t307 t308 = some r) ∧ As (kq ≤ kj105) ∧ As (Kd.R k93 93 wc w.heap.size (fun k_ => some k_ ≠ ((.slice Ao42 t324.length co42) : Value).ownBlock ∧ some k_ ≠ ((.slice Ao55 t329.length co55) : Value).ownBlock) (.slice Ao29 t272.length co29) t272) ∧ As (Kd.R (Kd.int .i64) 3 wc w.heap.size (fun k_ => some k_ ≠ ((.slice Ao33 t278.length co33) : Value).ownBlock ∧ some k_ ≠ ((.slice Ao47 t325.length co47) : Value).ownBlock ∧ some k_ ≠ ((.slice Ao48 t326.length co48) : Value).ownBlock ∧ some k_ ≠ ((.slice Ao57 t330.length co57) : Value).ownBlock ∧ some k_ ≠ ((.slice Ao59 t331.length co59) : Value).ownBlock) (.slice Ao31 t275.length co31) t275) ∧ As (Kd.R (Kd.int .i64) 3 wc w.heap.size (fun k_ => some k_ ≠ ((.slice Ao31 t275.length co31) : Value).ownBlock ∧ some k_ ≠ ((.slice Ao47 t325.length co47) : Value).ownBlock ∧ some k_ ≠ ((.slice Ao48 t326.length co48) : Value).ownBlock ∧ some k_ ≠ ((.slice Ao57 t330.length co57) : Value).ownBlock ∧ some k_ ≠ ((.slice Ao59 t331.length co59) : Value).ownBlock) (.slice Ao33 t278.length co33) t278) ∧ As (Kd.R k93 93 wc w.heap.size (fun k_ => some k_ ≠ ((.slice Ao29 t272.length co29) : Value).ownBlock ∧ some k_ ≠ ((.slice Ao55 t329.length co55) : Value).ownBlock) (.slice Ao42 t324.length co42) t324) ∧ As (Kd.R (Kd.int .i64) 3 wc w.heap.size (fun k_ => some k_ ≠ ((.slice Ao31 t275.length co31) : Value).ownBlock ∧ some k_ ≠ ((.slice Ao33 t278.length co33) : Value).ownBlock ∧ some k_ ≠ ((.slice Ao48 t326.length co48) : Value).ownBlock ∧ some k_ ≠ ((.slice Ao57 t330.length co57) : Value).ownBlock ∧ some k_ ≠ ((.slice Ao59 t331.length co59) : Value).ownBlock) (.slice Ao47 t325.length co47) t325) ∧ As (Kd.R (Kd.int .i64) 3 wc w.heap.size (fun k_ => some k_ ≠ ((.slice Ao31 t275.length co31) : Value).ownBlock ∧ some k_ ≠ ((.slice Ao33 t278.length co33) : Value).ownBlock ∧ some k_ ≠ ((.slice Ao47 t325.length co47) : Value).ownBlock ∧ some k_ ≠ ((.slice Ao57 t330.length co57) : Value).ownBlock ∧ some k_ ≠ ((.slice Ao59 t331.length co59) : Value).ownBlock) (.slice Ao48 t326.length co48) t326) ∧ As (Kd.R k93 93 wc w.heap.size (fun k_ => some k_ ≠ ((.slice Ao29 t272.length co29) : Value).ownBlock ∧ some k_ ≠ ((.slice Ao42 t324.length co42) : Value).ownBlock) (.slice Ao55 t329.length co55) t329) ∧ As (Kd.R (Kd.int .i64) 3 wc w.heap.size (fun k_ => some k_ ≠ ((.slice Ao31 t275.length co31) : Value).ownBlock ∧ some k_ ≠ ((.slice Ao33 t278.length co33) : Value).ownBlock ∧ some k_ ≠ ((.slice Ao47 t325.length co47) : Value).ownBlock ∧ some k_ ≠ ((.slice Ao48 t326.length co48) : Value).ownBlock ∧ some k_ ≠ ((.slice Ao59 t331.length co59) : Value).ownBlock) (.slice Ao57 t330.length co57) t330) ∧ As (Kd.R (Kd.int .i64) 3 wc w.heap.size (fun k_ => some k_ ≠ ((.slice Ao31 t275.length co31) : Value).ownBlock ∧ some k_ ≠ ((.slice Ao33 t278.length co33) : Value).ownBlock ∧ some k_ ≠ ((.slice Ao47 t325.length co47) : Value).ownBlock ∧ some k_ ≠ ((.slice Ao48 t326.length co48) : Value).ownBlock ∧ some k_ ≠ ((.slice Ao57 t330.length co57) : Value).ownBlock) (.slice Ao59 t331.length co59) t331) ∧ As (wc.heap[gb256]? = some (.cells #[(.slice A0_0 l0_0.length c0_0), (.slice A0_1 l0_1.length c0_1), (.slice A0_2 l0_2.length c0_2), .int .i64 a0_3, .int .i64 a0_4] 47 (0, 0))) ∧ As (wc.heap[gb257]? = some (.cells #[.int .i64 a1_0, .int .i64 a1_1] 48 (0, 0))) ∧ As (wc.heap[gb283]? = some (.cells #[(.slice Ao29 t272.length co29), (.slice Ao31 t275.length co31), (.slice Ao33 t278.length co33), .int .i64 t281, .int .i64 t282] 34 (0, 0))) ∧ As (wc.heap[gb295]? = some (.cells #[(.slice Ao42 t324.length co42), (.slice Ao47 t325.length co47), (.slice Ao48 t326.length co48), .int .i64 t293, .int .i64 t294] 34 (0, 0))) ∧ As (wc.heap[gb309]? = some (.cells #[(.slice Ao55 t329.length co55), (.slice Ao57 t330.length co57), (.slice Ao59 t331.length co59), .int .i64 t307, .int .i64 t308] 34 (0, 0))) ∧ As (Below w.heap.size w wc))
             case first =>
              have H := HC116.out
              clear HC116
              by_cases c117 : t332 = t328
              rotate_left
              ·
               rw [if_neg c117] at H
               have c117b0 : (t332 == t328) = false := beq_eq_false_iff_ne.mpr c117
               have c117b1 : (t332 != t328) = true := bne_iff_ne.mpr c117
               (first | rw [c117b0] | (simp only [i64_w, i32_w]; rw [c117b0]) | skip)
               exact absurd H (by rw [hrt.out]; simp)
              rw [if_pos c117] at H
              have c117b0 : (t332 == t328) = true := beq_iff_eq.mpr c117
              have c117b1 : (t332 != t328) = false := bne_eq_false_iff_eq.mpr c117
              clear c117
              (first | rw [c117b0] | (simp only [i64_w, i32_w]; rw [c117b0]) | skip)
              have H' := As.mk H
              clear H
              go_wp2
              go_meet
              case rel => exact ⟨_, H', ⟨by have := HJ4.out; have := HJ18.out; have := HJ73.out; have := HJ82.out; have := HJ101.out; have := HJ105.out; first | omega | exact Nat.le_refl _⟩, ⟨by (try simp only [hl296000_82]); (try simp only [hl296001_82]); (try simp only [hl296002_82]); (try simp only [hl310000_105]); (try simp only [hl310001_105]); (try simp only [hl310002_105]); (with_reducible repeat (first | apply Kd.R_alloc | apply Kd.R_drewN | apply Kd.R_drew)); exact HO_284000.out⟩, ⟨by (try simp only [hl296000_82]); (try simp only [hl296001_82]); (try simp only [hl296002_82]); (try simp only [hl310000_105]); (try simp only [hl310001_105]); (try simp only [hl310002_105]); (with_reducible repeat (first | apply Kd.R_alloc | apply Kd.R_drewN | apply Kd.R_drew)); exact HO_284001.out⟩, ⟨by (try simp only [hl296000_82]); (try simp only [hl296001_82]); (try simp only [hl296002_82]); (try simp only [hl310000_105]); (try simp only [hl310001_105]); (try simp only [hl310002_105]); (with_reducible repeat (first | apply Kd.R_alloc | apply Kd.R_drewN | apply Kd.R_drew)); exact HO_284002.out⟩, ⟨by (try simp only [hl296000_82]); (try simp only [hl296001_82]); (try simp only [hl296002_82]); (try simp only [hl310000_105]); (try simp only [hl310001_105]); (try simp only [hl310002_105]); (with_reducible repeat (first | apply Kd.R_alloc | apply Kd.R_drewN | apply Kd.R_drew)); exact HO_296000.out⟩, ⟨by (try simp only [hl296000_82]); (try simp only [hl296001_82]); (try simp only [hl296002_82]); (try simp only [hl310000_105]); (try simp only [hl310001_105]); (try simp only [hl310002_105]); (with_reducible repeat (first | apply Kd.R_alloc | apply Kd.R_drewN | apply Kd.R_drew)); exact HO_296001.out⟩, ⟨by (try simp only [hl296000_82]); (try simp only [hl296001_82]); (try simp only [hl296002_82]); (try simp only [hl310000_105]); (try simp only [hl310001_105]); (try simp only [hl310002_105]); (with_reducible repeat (first | apply Kd.R_alloc | apply Kd.R_drewN | apply Kd.R_drew)); exact HO_296002.out⟩, ⟨by (try simp only [hl296000_82]); (try simp only [hl296001_82]); (try simp only [hl296002_82]); (try simp only [hl310000_105]); (try simp only [hl310001_105]); (try simp only [hl310002_105]); (with_reducible repeat (first | apply Kd.R_alloc | apply Kd.R_drewN | apply Kd.R_drew)); exact HO_310000.out⟩, ⟨by (try simp only [hl296000_82]); (try simp only [hl296001_82]); (try simp only [hl296002_82]); (try simp only [hl310000_105]); (try simp only [hl310001_105]); (try simp only [hl310002_105]); (with_reducible repeat (first | apply Kd.R_alloc | apply Kd.R_drewN | apply Kd.R_drew)); exact HO_310001.out⟩, ⟨by (try simp only [hl296000_82]); (try simp only [hl296001_82]); (try simp only [hl296002_82]); (try simp only [hl310000_105]); (try simp only [hl310001_105]); (try simp only [hl310002_105]); (with_reducible repeat (first | apply Kd.R_alloc | apply Kd.R_drewN | apply Kd.R_drew)); exact HO_310002.out⟩, ⟨by (try simp only [hl296000_82]); (try simp only [hl296001_82]); (try simp only [hl296002_82]); (try simp only [hl310000_105]); (try simp only [hl310001_105]); (try simp only [hl310002_105]); exact bx BK256.out⟩, ⟨by (try simp only [hl296000_82]); (try simp only [hl296001_82]); (try simp only [hl296002_82]); (try simp only [hl310000_105]); (try simp only [hl310001_105]); (try simp only [hl310002_105]); exact bx BK257.out⟩, ⟨by (try simp only [hl296000_82]); (try simp only [hl296001_82]); (try simp only [hl296002_82]); (try simp only [hl310000_105]); (try simp only [hl310001_105]); (try simp only [hl310002_105]); exact bx BK283.out⟩, ⟨by (try simp only [hl296000_82]); (try simp only [hl296001_82]); (try simp only [hl296002_82]); (try simp only [hl310000_105]); (try simp only [hl310001_105]); (try simp only [hl310002_105]); exact bx BK295.out⟩, ⟨by (try simp only [hl296000_82]); (try simp only [hl296001_82]); (try simp only [hl296002_82]); (try simp only [hl310000_105]); (try simp only [hl310001_105]); (try simp only [hl310002_105]); exact bx BK309.out⟩, ⟨be w⟩⟩
             case rest =>
              (repeat revert ‹List S93›)
              (repeat revert ‹S93›)
              (repeat revert ‹List S98›)
              (repeat revert ‹S98›)
              (repeat revert ‹Nat›)
              (repeat revert ‹Int›)
              (repeat revert ‹Bool›)
              (repeat revert ‹Value›)
              (repeat revert ‹World›)
              (repeat revert ‹Option Addr›)
              (repeat revert ‹ByteArray›)
              (repeat revert ‹List Int›)
              (repeat revert ‹List ByteArray›)
              (repeat revert ‹List Value›)
              (repeat revert ‹Act → World → Prop›)
              (repeat revert ‹Act›)
              exact hG_.out⟩

end Go.Proofs.Ytnlhjblfemgggaa.PFnExactWritten
