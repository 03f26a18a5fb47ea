/- Written by a program of this session (a turned copy of the kit's print): a contract for each Go function. No condition beside those in each statement. -/
import Derived.Test.YtnlhjblfemgggaaPFnExactFreedx0
import Derived.Test.YtnlhjblfemgggaaPFnExactFreedx2
import Derived.Test.YtnlhjblfemgggaaPFnExactFreedx3
import Derived.Test.YtnlhjblfemgggaaPFnExactFreedx4
import Derived.Test.YtnlhjblfemgggaaPFnExactFreedx5
import Derived.Test.YtnlhjblfemgggaaPFnExactFreedx6
namespace Go.Proofs.Ytnlhjblfemgggaa.PFnExactFreed
open Go.RowKit Go.Proofs.YtnlhjblfemgggaaW.PrintWords Go.Proofs.YtnlhjblfemgggaaW.PrintLast Go.Proofs.YtnlhjblfemgggaaW.PrintMore
attribute [local go_sem] max2_int min2_int max_two min_two max_three min_three max_four min_four   -- for this text's walks alone
set_option linter.unusedVariables false
set_option linter.unusedSimpArgs false

set_option maxHeartbeats 8000000 in
set_option maxRecDepth 100000 in
def laws_FnExactFreed.callsP0 :
  {G_ : Prop // RestG G_ → ∀ (k : Nat) (A0_0 : Option Addr) (c0_0 : Nat) (l0_0 : List (S98)) (A0_1 : Option Addr) (c0_1 : Nat) (l0_1 : List Int) (A0_2 : Option Addr) (c0_2 : Nat) (l0_2 : List Int) (a0_3 : Int) (a0_4 : Int) (a1_0 : Int) (a1_1 : Int) (r : Bool) (w : World) (hr0_0 : Kd.C k98 w A0_0 l0_0.length l0_0) (hc0_0 : l0_0.length ≤ c0_0) (hr0_1 : Kd.C (Kd.int .i64) w A0_1 l0_1.length l0_1) (hc0_1 : l0_1.length ≤ c0_1) (hr0_2 : Kd.C (Kd.int .i64) w A0_2 l0_2.length l0_2) (hc0_2 : l0_2.length ≤ c0_2) (hrt : As (r = true)) (h : laws_FnExactFreed.f k l0_0 l0_1 l0_2 a0_3 a0_4 a1_0 a1_1 = some r),
  Calls Try.prog 5 #[.agg #[.slice A0_0 l0_0.length c0_0, .slice A0_1 l0_1.length c0_1, .slice A0_2 l0_2.length c0_2, .int .i64 a0_3, .int .i64 a0_4], .agg #[.int .i64 a1_0, .int .i64 a1_1]] w fun e w' => e = .returned (.bool r) ∧ Below w.heap.size w w'} := ⟨_, by
 intro hG_
 intro k A0_0 c0_0 l0_0 A0_1 c0_1 l0_1 A0_2 c0_2 l0_2 a0_3 a0_4 a1_0 a1_1 r w hr0_0 hc0_0 hr0_1 hc0_1 hr0_2 hc0_2 hrt h
 have hu47 := Try.underlying47
 have hu48 := Try.underlying48
 have hu34 := Try.underlying34
 have HR0_0 := As.mk hr0_0
 have HC0_0 := As.mk hc0_0
 clear hr0_0 hc0_0
 have HR0_1 := As.mk hr0_1
 have HC0_1 := As.mk hc0_1
 clear hr0_1 hc0_1
 have HR0_2 := As.mk hr0_2
 have HC0_2 := As.mk hc0_2
 clear hr0_2 hc0_2
 have HB := As.mk (Below.refl w.heap.size w)
 have H : ((laws_szMemory.f l0_0 l0_1 l0_2 a0_3 a0_4 1048576).bind fun t241 => (if t241 < 0 then (some true) else (laws_FnExactFreed.j0 k l0_0 l0_1 l0_2 a0_3 a0_4 a1_0 a1_1))) = some r := h
 clear h
 obtain ⟨t241, A30, H⟩ := Option.bind_eq_some_iff.mp H
 try dsimp only at H
 have A3 := As.mk A30
 clear A30
 have HC4 := As.mk H
 clear H
 go_enter Try.func5, Try.ntmps5
 go_upto_if 17 with (first | ((with_reducible refine gate_dst (N := 2) rfl ?_); refine box_event ?hg (N := 2) ?hd (cs := #[.slice A0_0 l0_0.length c0_0, .slice A0_1 l0_1.length c0_1, .slice A0_2 l0_2.length c0_2, .int .i64 a0_3, .int .i64 a0_4]) (t := 47) ?hr ?_; (case hd => rfl); (case hg => rfl); (case hr => first | (go_simp; done) | (go_simp; rfl)); intro gb239 hg w5 hbox hb; have BK239 := As.mk (hbox); have GW239 := As.mk (gs w hg); have GE239 := As.mk (gs w hg); replace HB := As.mk (below_step (be w) hb); clear hb hbox hg) | ((with_reducible refine gate_dst (N := 3) rfl ?_); refine box_event ?hg (N := 3) ?hd (cs := #[.int .i64 a1_0, .int .i64 a1_1]) (t := 48) ?hr ?_; (case hd => rfl); (case hg => rfl); (case hr => first | (go_simp; done) | (go_simp; rfl)); intro gb240 hg w6 hbox hb; have BK240 := As.mk (hbox); have GW240 := As.mk (gs w hg); have GE240 := As.mk (gs w hg); replace HB := As.mk (below_step (be w) hb); have NB239_240 := As.mk (nl hg (bx BK239.out)); have NB240_239 := As.mk (ng hg (bx BK239.out)); replace BK239 := As.mk (blk_below (bx BK239.out) hb); clear hb hbox hg; have hnb7 := NB239_240.out; have hnc7 := NB240_239.out; obtain ⟨hcz8_0, hcz8_1, hcz8_2, hcz8_3, hcz8_4, hfz8_0, hfz8_1, hfz8_2, hfz8_3, hfz8_4⟩ := cl5 BK239.out) | ((with_reducible refine gate_callee (f := 23) rfl ?_); refine goesL_ (some 15) rfl rfl Try.func23 (by kernel_rfl) rfl #[.agg #[.slice A0_0 l0_0.length c0_0, .slice A0_1 l0_1.length c0_1, .slice A0_2 l0_2.length c0_2, .int .i64 a0_3, .int .i64 a0_4], .int .i64 1048576] rfl (by (try simp only [lm]); first | done | rfl | (simp only [List.length_drop, List.length_take]; rfl)) ?_; (with_reducible refine (laws_szMemory.calls _ _ l0_0 _ _ l0_1 _ _ l0_2 a0_3 a0_4 1048576 t241 _ ?side1 ?side2 ?side3 ?side4 ?side5 ?side6 A3.out).mono ?_); (case side1 => exact Kd.C_below HR0_0.out (be w)); (case side2 => exact HC0_0.out); (case side3 => exact Kd.C_below HR0_1.out (be w)); (case side4 => exact HC0_1.out); (case side5 => exact Kd.C_below HR0_2.out (be w)); (case side6 => exact HC0_2.out); rintro e w9 ⟨rfl, hb⟩; refine ⟨_, rfl, ?_⟩; replace BK239 := As.mk (blk_below (bx BK239.out) hb); replace BK240 := As.mk (blk_below (bx BK240.out) hb); replace HB := As.mk (below_step (be w) hb); (try clear hb); (try clear hb2); (try clear hk); (try clear hi)))
 (try simp only [pk])
 go_cut [] (fun wc => ∃ (kq : Nat), As (laws_FnExactFreed.j0 kq l0_0 l0_1 l0_2 a0_3 a0_4 a1_0 a1_1 = some r) ∧ As (kq ≤ k) ∧ As (wc.heap[gb239]? = some (.cells #[(.slice A0_0 l0_0.length c0_0), (.slice A0_1 l0_1.length c0_1), (.slice A0_2 l0_2.length c0_2), .int .i64 a0_3, .int .i64 a0_4] 47 (0, 0))) ∧ As (wc.heap[gb240]? = some (.cells #[.int .i64 a1_0, .int .i64 a1_1] 48 (0, 0))) ∧ As (Below w.heap.size w wc))
 case first =>
  have H := HC4.out
  clear HC4
  by_cases c10 : t241 < 0
  ·
   rw [if_pos c10] at H
   have c10b0 : decide (t241 < 0) = true := decide_eq_true c10
   clear c10
   (first | rw [c10b0] | (simp only [i64_w, i32_w]; rw [c10b0]) | skip)
   obtain rfl := Option.some.inj H
   go_wp2
   go_ret
   exact ⟨by first | rfl | (simp [errW_none, errW_some] <;> rfl) | (simp [*, errW_none, errW_some] <;> rfl), be w⟩
  rw [if_neg c10] at H
  have c10b0 : decide (t241 < 0) = false := decide_eq_false c10
  clear c10
  (first | rw [c10b0] | (simp only [i64_w, i32_w]; rw [c10b0]) | skip)
  have H' := As.mk H
  clear H
  go_wp2
  go_meet
  case rel => exact ⟨_, H', ⟨by first | omega | exact Nat.le_refl _⟩, ⟨bx BK239.out⟩, ⟨bx BK240.out⟩, ⟨be w⟩⟩
 case rest =>
  clear HC4
  (try clear hcz8_0); (try clear hcz8_1); (try clear hcz8_2); (try clear hcz8_3); (try clear hcz8_4); (try clear hfz8_0); (try clear hfz8_1); (try clear hfz8_2); (try clear hfz8_3); (try clear hfz8_4)
  obtain ⟨kq, HA, HJ3, BK239, BK240, HB⟩ := hcut
  cases kq with
  | zero => exact absurd HA.out (by simp [laws_FnExactFreed.j0])
  | succ kj3 =>
   have H := HA.out
   clear HA
   simp only [laws_FnExactFreed.j0] at H
   obtain ⟨⟨t242, t245, t248, t251, t252⟩, A110, H⟩ := Option.bind_eq_some_iff.mp H
   try dsimp only at H
   have A11 := As.mk A110
   clear A110
   obtain ⟨⟨t253, t254⟩, A120, H⟩ := Option.bind_eq_some_iff.mp H
   try dsimp only at H
   have A12 := As.mk A120
   clear A120
   obtain ⟨⟨t255, t258, t261, t264, t265⟩, A130, H⟩ := Option.bind_eq_some_iff.mp H
   try dsimp only at H
   have A13 := As.mk A130
   clear A130
   obtain ⟨⟨t267, t270, t273, t276, t277⟩, A140, H⟩ := Option.bind_eq_some_iff.mp H
   try dsimp only at H
   have A14 := As.mk A140
   clear A140
   obtain ⟨⟨t279, t280⟩, A150, H⟩ := Option.bind_eq_some_iff.mp H
   try dsimp only at H
   have A15 := As.mk A150
   clear A150
   obtain ⟨⟨t281, t284, t287, t290, t291⟩, A160, H⟩ := Option.bind_eq_some_iff.mp H
   try dsimp only at H
   have A16 := As.mk A160
   clear A160
   obtain ⟨t293, A170, H⟩ := Option.bind_eq_some_iff.mp H
   try dsimp only at H
   have A17 := As.mk A170
   clear A170
   have HC18 := As.mk H
   clear H
   try go_wp2
   replace BK239 := As.mk (blk_drew BK239.out)
   replace BK240 := As.mk (blk_drew BK240.out)
   replace HB := As.mk (below_drew1 HB.out)
   refine start_ (n := 7) (S := fun w' => w'.cell? ⟨gb239, 0, none⟩ = some (.slice A0_0 l0_0.length c0_0) ∧ w'.cell? ⟨gb239, 1, none⟩ = some (.slice A0_1 l0_1.length c0_1) ∧ w'.cell? ⟨gb239, 2, none⟩ = some (.slice A0_2 l0_2.length c0_2) ∧ w'.cell? ⟨gb239, 3, none⟩ = some (.int .i64 a0_3) ∧ w'.cell? ⟨gb239, 4, none⟩ = some (.int .i64 a0_4) ∧ w'.cell? ⟨gb240, 0, none⟩ = some (.int .i64 a1_0) ∧ w'.cell? ⟨gb240, 1, none⟩ = some (.int .i64 a1_1)) (ds := []) #[O, O, O, O, O, O, O] (by kernel_rfl) rfl rfl ⟨(blk_cell BK239.out 0).trans rfl, (blk_cell BK239.out 1).trans rfl, (blk_cell BK239.out 2).trans rfl, (blk_cell BK239.out 3).trans rfl, (blk_cell BK239.out 4).trans rfl, (blk_cell BK240.out 0).trans rfl, (blk_cell BK240.out 1).trans rfl⟩ (fun hHeld => ?_)
   generalize wc.drew = w19 at BK239 BK240 HB hHeld ⊢
   refine take_ (i := 0) (N := some 18) (v := ?_) (a' := ?_) #[I, O, O, O, O, O, O] rfl rfl (by kernel_rfl) (fun _ _ _ h => h) (Or.inl ⟨by rfl, ?_⟩) hHeld ?_ ?_
   rotate_left
   ·
    rintro w' ⟨s0, s1, s2, s3, s4, s5, s6⟩
    go_simp
    with_reducible rfl
   rotate_left
   ·
    simp only [pk, i64_w, i32_w]
    rfl
   refine take_ (i := 2) (N := some 20) (v := ?_) (a' := ?_) #[I, O, I, O, O, O, O] rfl rfl (by kernel_rfl) (fun _ _ _ h => h) (Or.inl ⟨by rfl, ?_⟩) hHeld ?_ ?_
   rotate_left
   ·
    rintro w' ⟨s0, s1, s2, s3, s4, s5, s6⟩
    go_simp
    with_reducible rfl
   rotate_left
   ·
    simp only [pk, i64_w, i32_w]
    rfl
   refine join_ (σ := Value × Value × Value × Value × Value × Value × Nat) 1 #[true, true, true, true, true, true, false] (fun s_ => [(19, .agg #[s_.1, s_.2.1, s_.2.2.1, .int .i64 t251, .int .i64 t252]), (21, .agg #[.int .i64 t253, .int .i64 t254]), (22, .agg #[s_.2.2.2.1, s_.2.2.2.2.1, s_.2.2.2.2.2.1, .int .i64 t264, .int .i64 t265]), (6, .pointer (some ⟨s_.2.2.2.2.2.2, 0, none⟩))]) (fun s_ w' => (w'.cell? ⟨gb239, 0, none⟩ = some (.slice A0_0 l0_0.length c0_0) ∧ w'.cell? ⟨gb239, 1, none⟩ = some (.slice A0_1 l0_1.length c0_1) ∧ w'.cell? ⟨gb239, 2, none⟩ = some (.slice A0_2 l0_2.length c0_2) ∧ w'.cell? ⟨gb239, 3, none⟩ = some (.int .i64 a0_3) ∧ w'.cell? ⟨gb239, 4, none⟩ = some (.int .i64 a0_4) ∧ w'.cell? ⟨gb240, 0, none⟩ = some (.int .i64 a1_0) ∧ w'.cell? ⟨gb240, 1, none⟩ = some (.int .i64 a1_1)) ∧ (Kd.R k93 93 w' w.heap.size (fun k_ => some k_ ≠ (s_.2.2.2.1 : Value).ownBlock) s_.1 t242) ∧ (Kd.R (Kd.int .i64) 3 w' w.heap.size (fun k_ => some k_ ≠ (s_.2.2.1 : Value).ownBlock ∧ some k_ ≠ (s_.2.2.2.2.1 : Value).ownBlock ∧ some k_ ≠ (s_.2.2.2.2.2.1 : Value).ownBlock) s_.2.1 t245) ∧ (Kd.R (Kd.int .i64) 3 w' w.heap.size (fun k_ => some k_ ≠ (s_.2.1 : Value).ownBlock ∧ some k_ ≠ (s_.2.2.2.2.1 : Value).ownBlock ∧ some k_ ≠ (s_.2.2.2.2.2.1 : Value).ownBlock) s_.2.2.1 t248) ∧ (Kd.R k93 93 w' w.heap.size (fun k_ => some k_ ≠ (s_.1 : Value).ownBlock) s_.2.2.2.1 t255) ∧ (Kd.R (Kd.int .i64) 3 w' w.heap.size (fun k_ => some k_ ≠ (s_.2.1 : Value).ownBlock ∧ some k_ ≠ (s_.2.2.1 : Value).ownBlock ∧ some k_ ≠ (s_.2.2.2.2.2.1 : Value).ownBlock) s_.2.2.2.2.1 t258) ∧ (Kd.R (Kd.int .i64) 3 w' w.heap.size (fun k_ => some k_ ≠ (s_.2.1 : Value).ownBlock ∧ some k_ ≠ (s_.2.2.1 : Value).ownBlock ∧ some k_ ≠ (s_.2.2.2.2.1 : Value).ownBlock) s_.2.2.2.2.2.1 t261) ∧ (w'.heap[gb239]? = some (.cells #[.slice A0_0 l0_0.length c0_0, .slice A0_1 l0_1.length c0_1, .slice A0_2 l0_2.length c0_2, .int .i64 a0_3, .int .i64 a0_4] 47 (0, 0))) ∧ (w'.heap[gb240]? = some (.cells #[.int .i64 a1_0, .int .i64 a1_1] 48 (0, 0))) ∧ (w'.heap[s_.2.2.2.2.2.2]? = some (.cells #[.slice none 0 0, .slice none 0 0, .slice none 0 0, .int .i64 0, .int .i64 0] 34 (0, 0))) ∧ (w.heap.size ≤ s_.2.2.2.2.2.2) ∧ (w.heap.size ≤ s_.2.2.2.2.2.2) ∧ (gb239 ≠ s_.2.2.2.2.2.2) ∧ (s_.2.2.2.2.2.2 ≠ gb239) ∧ (gb240 ≠ s_.2.2.2.2.2.2) ∧ (s_.2.2.2.2.2.2 ≠ gb240) ∧ (Below w.heap.size w w')) ?_ ?_
   rotate_left
   ·
    intro hCont
    refine two_ (i := 1) (j := 5) (Ni := some 19) (Nj := some 6) #[true, true, true, false, false, false, false] #[true, false, true, false, false, true, false] rfl rfl rfl rfl (by kernel_rfl) (by decide) (by decide) (fun K hK => ?_) (fun K hK => ?_)
    ·
     skip
     refine goes_ Try.func25 (by kernel_rfl) rfl #[.agg #[.slice A0_0 l0_0.length c0_0, .slice A0_1 l0_1.length c0_1, .slice A0_2 l0_2.length c0_2, .int .i64 a0_3, .int .i64 a0_4]] (by rfl) rfl rfl (by (try simp only [lm]); first | done | rfl | (simp only [List.length_drop, List.length_take]; rfl)) ?_
     with_reducible refine (laws_toMemory.calls kj3 _ _ l0_0 _ _ l0_1 _ _ l0_2 a0_3 a0_4 t242 t245 t248 t251 t252 _ ?side1 ?side2 ?side3 ?side4 ?side5 ?side6 A11.out).mono ?_
     (case side1 => exact Kd.C_below HR0_0.out (be w))
     (case side2 => exact HC0_0.out)
     (case side3 => exact Kd.C_below HR0_1.out (be w))
     (case side4 => exact HC0_1.out)
     (case side5 => exact Kd.C_below HR0_2.out (be w))
     (case side6 => exact HC0_2.out)
     rintro e w20 ⟨v243, v246, v249, rfl, ho0, ho1, ho2, hb⟩
     refine ⟨_, rfl, ?_⟩
     have HO244 := As.mk (Kd.R_lower ho0 (below_size (be w)))
     have HO247 := As.mk (Kd.R_lower ho1 (below_size (be w)))
     have HO250 := As.mk (Kd.R_lower ho2 (below_size (be w)))
     replace BK239 := As.mk (blk_below (bx BK239.out) hb)
     replace BK240 := As.mk (blk_below (bx BK240.out) hb)
     replace HB := As.mk (below_step (be w) hb)
     (try clear hb)
     (try clear hb2)
     (try clear hk)
     (try clear hi)
     (try clear ho0)
     (try clear ho1)
     (try clear ho2)
     refine hK.out _ _ ⟨(blk_cell BK239.out 0).trans rfl, (blk_cell BK239.out 1).trans rfl, (blk_cell BK239.out 2).trans rfl, (blk_cell BK239.out 3).trans rfl, (blk_cell BK239.out 4).trans rfl, (blk_cell BK240.out 0).trans rfl, (blk_cell BK240.out 1).trans rfl⟩ (fun hHeld => ?_)
     clear hK K
     refine norm_ (a' := ?_) ?_ ?_
     rotate_left
     ·
      show Act.put _ (some 19) _ = _
      simp only [pk, i64_w, i32_w]
      rfl
     refine two_ (i := 3) (j := 5) (Ni := some 21) (Nj := some 6) #[true, true, true, true, false, false, false] #[true, true, true, false, false, true, false] rfl rfl rfl rfl (by kernel_rfl) (by decide) (by decide) (fun K hK => ?_) (fun K hK => ?_)
     ·
      skip
      refine goes_ Try.func26 (by kernel_rfl) rfl #[.agg #[.int .i64 a1_0, .int .i64 a1_1]] (by rfl) rfl rfl (by (try simp only [lm]); first | done | rfl | (simp only [List.length_drop, List.length_take]; rfl)) ?_
      with_reducible refine (laws_toValue.calls a1_0 a1_1 t253 t254 _ A12.out).mono ?_
      rintro e w21 ⟨rfl, hb⟩
      refine ⟨_, rfl, ?_⟩
      replace HO244 := As.mk (Kd.R_below (by (with_reducible repeat (first | apply Kd.R_alloc | apply Kd.R_drewN | apply Kd.R_drew)); exact HO244.out) hb)
      replace HO247 := As.mk (Kd.R_below (by (with_reducible repeat (first | apply Kd.R_alloc | apply Kd.R_drewN | apply Kd.R_drew)); exact HO247.out) hb)
      replace HO250 := As.mk (Kd.R_below (by (with_reducible repeat (first | apply Kd.R_alloc | apply Kd.R_drewN | apply Kd.R_drew)); exact HO250.out) hb)
      replace BK239 := As.mk (blk_below (bx BK239.out) hb)
      replace BK240 := As.mk (blk_below (bx BK240.out) hb)
      replace HB := As.mk (below_step (be w) hb)
      (try clear hb)
      (try clear hb2)
      (try clear hk)
      (try clear hi)
      obtain ⟨Ao22, co22, eo22⟩ := Kd.R_slice HO244.out
      (first | subst eo22 | (injection eo22 with f1_ f2_ f3_; have f4_ := f1_.symm; have f5_ := f3_.symm; clear f1_ f2_ f3_; subst f4_; subst f5_))
      obtain ⟨Ao23, co23, eo23⟩ := Kd.R_slice HO247.out
      (first | subst eo23 | (injection eo23 with f1_ f2_ f3_; have f4_ := f1_.symm; have f5_ := f3_.symm; clear f1_ f2_ f3_; subst f4_; subst f5_))
      obtain ⟨Ao24, co24, eo24⟩ := Kd.R_slice HO250.out
      (first | subst eo24 | (injection eo24 with f1_ f2_ f3_; have f4_ := f1_.symm; have f5_ := f3_.symm; clear f1_ f2_ f3_; subst f4_; subst f5_))
      refine hK.out _ _ ⟨(blk_cell BK239.out 0).trans rfl, (blk_cell BK239.out 1).trans rfl, (blk_cell BK239.out 2).trans rfl, (blk_cell BK239.out 3).trans rfl, (blk_cell BK239.out 4).trans rfl, (blk_cell BK240.out 0).trans rfl, (blk_cell BK240.out 1).trans rfl⟩ (fun hHeld => ?_)
      clear hK K
      refine norm_ (a' := ?_) ?_ ?_
      rotate_left
      ·
       show Act.put _ (some 21) _ = _
       simp only [pk, i64_w, i32_w]
       rfl
      refine two_ (i := 4) (j := 5) (Ni := some 22) (Nj := some 6) #[true, true, true, true, true, false, false] #[true, true, true, true, false, true, false] rfl rfl rfl rfl (by kernel_rfl) (by decide) (by decide) (fun K hK => ?_) (fun K hK => ?_)
      ·
       skip
       refine goes_ Try.func24 (by kernel_rfl) rfl #[.agg #[.slice Ao22 t242.length co22, .slice Ao23 t245.length co23, .slice Ao24 t248.length co24, .int .i64 t251, .int .i64 t252], .agg #[.int .i64 t253, .int .i64 t254]] (by rfl) rfl rfl (by (try simp only [lm]); first | done | rfl | (simp only [List.length_drop, List.length_take]; rfl)) ?_
       with_reducible refine (spec_Freed.calls _ _ t242 _ _ t245 _ _ t248 t251 t252 t253 t254 t255 t258 t261 t264 t265 _ ?side1 ?side2 ?side3 ?side4 ?side5 ?side6 A13.out).mono ?_
       (case side1 => repeat (first | exact (Kd.R_reads' HO244.out).2.2 | (with_reducible refine Kd.C_alloc ?_ _) | (with_reducible refine Kd.C_drewN ?_ _) | (with_reducible refine Kd.C_drew ?_)))
       (case side2 => exact (Kd.R_reads' HO244.out).2.1)
       (case side3 => repeat (first | exact (Kd.R_reads' HO247.out).2.2 | (with_reducible refine Kd.C_alloc ?_ _) | (with_reducible refine Kd.C_drewN ?_ _) | (with_reducible refine Kd.C_drew ?_)))
       (case side4 => exact (Kd.R_reads' HO247.out).2.1)
       (case side5 => repeat (first | exact (Kd.R_reads' HO250.out).2.2 | (with_reducible refine Kd.C_alloc ?_ _) | (with_reducible refine Kd.C_drewN ?_ _) | (with_reducible refine Kd.C_drew ?_)))
       (case side6 => exact (Kd.R_reads' HO250.out).2.1)
       rintro e w25 ⟨v256, v259, v262, rfl, ho0, ho1, ho2, hb⟩
       refine ⟨_, rfl, ?_⟩
       have HO257 := As.mk (Kd.R_lower (Kd.R_new' ho0 (Kd.R_lt (by (with_reducible repeat (first | apply Kd.R_alloc | apply Kd.R_drewN | apply Kd.R_drew)); exact HO244.out))) (below_size (be w)))
       replace HO244 := As.mk (Kd.R_elder' (by (with_reducible repeat (first | apply Kd.R_alloc | apply Kd.R_drewN | apply Kd.R_drew)); exact HO244.out) (Kd.R_base ho0) hb)
       have HO260 := As.mk (Kd.R_lower (Kd.R_new' (Kd.R_new' ho1 (Kd.R_lt (by (with_reducible repeat (first | apply Kd.R_alloc | apply Kd.R_drewN | apply Kd.R_drew)); exact HO247.out))) (Kd.R_lt (by (with_reducible repeat (first | apply Kd.R_alloc | apply Kd.R_drewN | apply Kd.R_drew)); exact HO250.out))) (below_size (be w)))
       have HO263 := As.mk (Kd.R_lower (Kd.R_new' (Kd.R_new' ho2 (Kd.R_lt (by (with_reducible repeat (first | apply Kd.R_alloc | apply Kd.R_drewN | apply Kd.R_drew)); exact HO247.out))) (Kd.R_lt (by (with_reducible repeat (first | apply Kd.R_alloc | apply Kd.R_drewN | apply Kd.R_drew)); exact HO250.out))) (below_size (be w)))
       replace HO247 := As.mk (Kd.R_mono (Kd.R_told (Kd.R_told (Kd.R_old (by (with_reducible repeat (first | apply Kd.R_alloc | apply Kd.R_drewN | apply Kd.R_drew)); exact HO247.out) hb) (Kd.R_base ho1)) (Kd.R_base ho2)) (fun _ h_ => h_.1))
       replace HO250 := As.mk (Kd.R_mono (Kd.R_told (Kd.R_told (Kd.R_old (by (with_reducible repeat (first | apply Kd.R_alloc | apply Kd.R_drewN | apply Kd.R_drew)); exact HO250.out) hb) (Kd.R_base ho1)) (Kd.R_base ho2)) (fun _ h_ => h_.1))
       replace BK239 := As.mk (blk_below (bx BK239.out) hb)
       replace BK240 := As.mk (blk_below (bx BK240.out) hb)
       replace HB := As.mk (below_step (be w) hb)
       (try clear hb)
       (try clear hb2)
       (try clear hk)
       (try clear hi)
       (try clear ho0)
       (try clear ho1)
       (try clear ho2)
       refine hK.out _ _ ⟨(blk_cell BK239.out 0).trans rfl, (blk_cell BK239.out 1).trans rfl, (blk_cell BK239.out 2).trans rfl, (blk_cell BK239.out 3).trans rfl, (blk_cell BK239.out 4).trans rfl, (blk_cell BK240.out 0).trans rfl, (blk_cell BK240.out 1).trans rfl⟩ (fun hHeld => ?_)
       clear hK K
       refine norm_ (a' := ?_) ?_ ?_
       rotate_left
       ·
        show Act.put _ (some 22) _ = _
        simp only [pk, i64_w, i32_w]
        rfl
       refine one_ (i := 5) (N := some 6) #[I, I, I, I, I, I, O] rfl rfl (by kernel_rfl) (by decide) (fun K hK => ?_)
       refine box_step ?hg (N := 6) ?hd (cs := #[.slice none 0 0, .slice none 0 0, .slice none 0 0, .int .i64 0, .int .i64 0]) (t := 34) ?hr ?_; (case hd => rfl); (case hg => rfl); (case hr => first | (go_simp; done) | (go_simp; rfl))
       intro gb266 hg w26 hbox hb
       replace HO244 := As.mk (Kd.R_below (by (with_reducible repeat (first | apply Kd.R_alloc | apply Kd.R_drewN | apply Kd.R_drew)); exact HO244.out) hb)
       replace HO247 := As.mk (Kd.R_below (by (with_reducible repeat (first | apply Kd.R_alloc | apply Kd.R_drewN | apply Kd.R_drew)); exact HO247.out) hb)
       replace HO250 := As.mk (Kd.R_below (by (with_reducible repeat (first | apply Kd.R_alloc | apply Kd.R_drewN | apply Kd.R_drew)); exact HO250.out) hb)
       replace HO257 := As.mk (Kd.R_below (by (with_reducible repeat (first | apply Kd.R_alloc | apply Kd.R_drewN | apply Kd.R_drew)); exact HO257.out) hb)
       replace HO260 := As.mk (Kd.R_below (by (with_reducible repeat (first | apply Kd.R_alloc | apply Kd.R_drewN | apply Kd.R_drew)); exact HO260.out) hb)
       replace HO263 := As.mk (Kd.R_below (by (with_reducible repeat (first | apply Kd.R_alloc | apply Kd.R_drewN | apply Kd.R_drew)); exact HO263.out) hb)
       have BK266 := As.mk (hbox)
       have GW266 := As.mk (gs w hg)
       have GE266 := As.mk (gs w hg)
       replace HB := As.mk (below_step (be w) hb)
       have NB239_266 := As.mk (nl hg (bx BK239.out))
       have NB266_239 := As.mk (ng hg (bx BK239.out))
       replace BK239 := As.mk (blk_below (bx BK239.out) hb)
       have NB240_266 := As.mk (nl hg (bx BK240.out))
       have NB266_240 := As.mk (ng hg (bx BK240.out))
       replace BK240 := As.mk (blk_below (bx BK240.out) hb)
       clear hb hbox hg
       refine hK.out _ _ ⟨(blk_cell BK239.out 0).trans rfl, (blk_cell BK239.out 1).trans rfl, (blk_cell BK239.out 2).trans rfl, (blk_cell BK239.out 3).trans rfl, (blk_cell BK239.out 4).trans rfl, (blk_cell BK240.out 0).trans rfl, (blk_cell BK240.out 1).trans rfl⟩ (fun hHeld => ?_)
       clear hK K
       refine norm_ (a' := ?_) ?_ ?_
       rotate_left
       ·
        show Act.put _ (some 6) _ = _
        simp only [pk, i64_w, i32_w]
        rfl
       exact norm_ (by simp only [putAll, Act.put, List.setIfInBounds_toArray, List.set_cons_zero, List.set_cons_succ]) (hCont (.slice Ao22 t242.length co22, .slice Ao23 t245.length co23, .slice Ao24 t248.length co24, v256, v259, v262, gb266) _ ⟨hHeld, (by (with_reducible repeat (first | apply Kd.R_alloc | apply Kd.R_drewN | apply Kd.R_drew)); exact Kd.R_mono HO244.out (fun _ hk => hk.2)), (by (with_reducible repeat (first | apply Kd.R_alloc | apply Kd.R_drewN | apply Kd.R_drew)); exact Kd.R_mono HO247.out (fun _ hk => ⟨hk.1.1, ⟨hk.1.2, hk.2⟩⟩)), (by (with_reducible repeat (first | apply Kd.R_alloc | apply Kd.R_drewN | apply Kd.R_drew)); exact Kd.R_mono HO250.out (fun _ hk => ⟨hk.1.1, ⟨hk.1.2, hk.2⟩⟩)), (by (with_reducible repeat (first | apply Kd.R_alloc | apply Kd.R_drewN | apply Kd.R_drew)); exact Kd.R_mono HO257.out (fun _ hk => hk.2)), (by (with_reducible repeat (first | apply Kd.R_alloc | apply Kd.R_drewN | apply Kd.R_drew)); exact Kd.R_mono HO260.out (fun _ hk => ⟨hk.1.2, ⟨hk.2, hk.1.1⟩⟩)), (by (with_reducible repeat (first | apply Kd.R_alloc | apply Kd.R_drewN | apply Kd.R_drew)); exact Kd.R_mono HO263.out (fun _ hk => ⟨hk.1.2, ⟨hk.2, hk.1.1⟩⟩)), (bx BK239.out), (bx BK240.out), (bx BK266.out), GW266.out, GE266.out, NB239_266.out, NB266_239.out, NB240_266.out, NB266_240.out, (be w)⟩)
      ·
       skip
       refine box_step ?hg (N := 6) ?hd (cs := #[.slice none 0 0, .slice none 0 0, .slice none 0 0, .int .i64 0, .int .i64 0]) (t := 34) ?hr ?_; (case hd => rfl); (case hg => rfl); (case hr => first | (go_simp; done) | (go_simp; rfl))
       intro gb266 hg w22 hbox hb
       replace HO244 := As.mk (Kd.R_below (by (with_reducible repeat (first | apply Kd.R_alloc | apply Kd.R_drewN | apply Kd.R_drew)); exact HO244.out) hb)
       replace HO247 := As.mk (Kd.R_below (by (with_reducible repeat (first | apply Kd.R_alloc | apply Kd.R_drewN | apply Kd.R_drew)); exact HO247.out) hb)
       replace HO250 := As.mk (Kd.R_below (by (with_reducible repeat (first | apply Kd.R_alloc | apply Kd.R_drewN | apply Kd.R_drew)); exact HO250.out) hb)
       have BK266 := As.mk (hbox)
       have GW266 := As.mk (gs w hg)
       have GE266 := As.mk (gs w hg)
       replace HB := As.mk (below_step (be w) hb)
       have NB239_266 := As.mk (nl hg (bx BK239.out))
       have NB266_239 := As.mk (ng hg (bx BK239.out))
       replace BK239 := As.mk (blk_below (bx BK239.out) hb)
       have NB240_266 := As.mk (nl hg (bx BK240.out))
       have NB266_240 := As.mk (ng hg (bx BK240.out))
       replace BK240 := As.mk (blk_below (bx BK240.out) hb)
       clear hb hbox hg
       obtain ⟨Ao23, co23, eo23⟩ := Kd.R_slice HO244.out
       (first | subst eo23 | (injection eo23 with f1_ f2_ f3_; have f4_ := f1_.symm; have f5_ := f3_.symm; clear f1_ f2_ f3_; subst f4_; subst f5_))
       obtain ⟨Ao24, co24, eo24⟩ := Kd.R_slice HO247.out
       (first | subst eo24 | (injection eo24 with f1_ f2_ f3_; have f4_ := f1_.symm; have f5_ := f3_.symm; clear f1_ f2_ f3_; subst f4_; subst f5_))
       obtain ⟨Ao25, co25, eo25⟩ := Kd.R_slice HO250.out
       (first | subst eo25 | (injection eo25 with f1_ f2_ f3_; have f4_ := f1_.symm; have f5_ := f3_.symm; clear f1_ f2_ f3_; subst f4_; subst f5_))
       refine hK.out _ _ ⟨(blk_cell BK239.out 0).trans rfl, (blk_cell BK239.out 1).trans rfl, (blk_cell BK239.out 2).trans rfl, (blk_cell BK239.out 3).trans rfl, (blk_cell BK239.out 4).trans rfl, (blk_cell BK240.out 0).trans rfl, (blk_cell BK240.out 1).trans rfl⟩ (fun hHeld => ?_)
       clear hK K
       refine norm_ (a' := ?_) ?_ ?_
       rotate_left
       ·
        show Act.put _ (some 6) _ = _
        simp only [pk, i64_w, i32_w]
        rfl
       refine one_ (i := 4) (N := some 22) #[I, I, I, I, I, I, O] rfl rfl (by kernel_rfl) (by decide) (fun K hK => ?_)
       refine goes_ Try.func24 (by kernel_rfl) rfl #[.agg #[.slice Ao23 t242.length co23, .slice Ao24 t245.length co24, .slice Ao25 t248.length co25, .int .i64 t251, .int .i64 t252], .agg #[.int .i64 t253, .int .i64 t254]] (by rfl) rfl rfl (by (try simp only [lm]); first | done | rfl | (simp only [List.length_drop, List.length_take]; rfl)) ?_
       with_reducible refine (spec_Freed.calls _ _ t242 _ _ t245 _ _ t248 t251 t252 t253 t254 t255 t258 t261 t264 t265 _ ?side1 ?side2 ?side3 ?side4 ?side5 ?side6 A13.out).mono ?_
       (case side1 => repeat (first | exact (Kd.R_reads' HO244.out).2.2 | (with_reducible refine Kd.C_alloc ?_ _) | (with_reducible refine Kd.C_drewN ?_ _) | (with_reducible refine Kd.C_drew ?_)))
       (case side2 => exact (Kd.R_reads' HO244.out).2.1)
       (case side3 => repeat (first | exact (Kd.R_reads' HO247.out).2.2 | (with_reducible refine Kd.C_alloc ?_ _) | (with_reducible refine Kd.C_drewN ?_ _) | (with_reducible refine Kd.C_drew ?_)))
       (case side4 => exact (Kd.R_reads' HO247.out).2.1)
       (case side5 => repeat (first | exact (Kd.R_reads' HO250.out).2.2 | (with_reducible refine Kd.C_alloc ?_ _) | (with_reducible refine Kd.C_drewN ?_ _) | (with_reducible refine Kd.C_drew ?_)))
       (case side6 => exact (Kd.R_reads' HO250.out).2.1)
       rintro e w26 ⟨v256, v259, v262, rfl, ho0, ho1, ho2, hb⟩
       refine ⟨_, rfl, ?_⟩
       have HO257 := As.mk (Kd.R_lower (Kd.R_new' ho0 (Kd.R_lt (by (with_reducible repeat (first | apply Kd.R_alloc | apply Kd.R_drewN | apply Kd.R_drew)); exact HO244.out))) (below_size (be w)))
       replace HO244 := As.mk (Kd.R_elder' (by (with_reducible repeat (first | apply Kd.R_alloc | apply Kd.R_drewN | apply Kd.R_drew)); exact HO244.out) (Kd.R_base ho0) hb)
       have HO260 := As.mk (Kd.R_lower (Kd.R_new' (Kd.R_new' ho1 (Kd.R_lt (by (with_reducible repeat (first | apply Kd.R_alloc | apply Kd.R_drewN | apply Kd.R_drew)); exact HO247.out))) (Kd.R_lt (by (with_reducible repeat (first | apply Kd.R_alloc | apply Kd.R_drewN | apply Kd.R_drew)); exact HO250.out))) (below_size (be w)))
       have HO263 := As.mk (Kd.R_lower (Kd.R_new' (Kd.R_new' ho2 (Kd.R_lt (by (with_reducible repeat (first | apply Kd.R_alloc | apply Kd.R_drewN | apply Kd.R_drew)); exact HO247.out))) (Kd.R_lt (by (with_reducible repeat (first | apply Kd.R_alloc | apply Kd.R_drewN | apply Kd.R_drew)); exact HO250.out))) (below_size (be w)))
       replace HO247 := As.mk (Kd.R_mono (Kd.R_told (Kd.R_told (Kd.R_old (by (with_reducible repeat (first | apply Kd.R_alloc | apply Kd.R_drewN | apply Kd.R_drew)); exact HO247.out) hb) (Kd.R_base ho1)) (Kd.R_base ho2)) (fun _ h_ => h_.1))
       replace HO250 := As.mk (Kd.R_mono (Kd.R_told (Kd.R_told (Kd.R_old (by (with_reducible repeat (first | apply Kd.R_alloc | apply Kd.R_drewN | apply Kd.R_drew)); exact HO250.out) hb) (Kd.R_base ho1)) (Kd.R_base ho2)) (fun _ h_ => h_.1))
       replace BK239 := As.mk (blk_below (bx BK239.out) hb)
       replace BK240 := As.mk (blk_below (bx BK240.out) hb)
       replace BK266 := As.mk (blk_below (bx BK266.out) hb)
       replace HB := As.mk (below_step (be w) hb)
       (try clear hb)
       (try clear hb2)
       (try clear hk)
       (try clear hi)
       (try clear ho0)
       (try clear ho1)
       (try clear ho2)
       refine hK.out _ _ ⟨(blk_cell BK239.out 0).trans rfl, (blk_cell BK239.out 1).trans rfl, (blk_cell BK239.out 2).trans rfl, (blk_cell BK239.out 3).trans rfl, (blk_cell BK239.out 4).trans rfl, (blk_cell BK240.out 0).trans rfl, (blk_cell BK240.out 1).trans rfl⟩ (fun hHeld => ?_)
       clear hK K
       refine norm_ (a' := ?_) ?_ ?_
       rotate_left
       ·
        show Act.put _ (some 22) _ = _
        simp only [pk, i64_w, i32_w]
        rfl
       exact norm_ (by simp only [putAll, Act.put, List.setIfInBounds_toArray, List.set_cons_zero, List.set_cons_succ]) (hCont (.slice Ao23 t242.length co23, .slice Ao24 t245.length co24, .slice Ao25 t248.length co25, v256, v259, v262, gb266) _ ⟨hHeld, (by (with_reducible repeat (first | apply Kd.R_alloc | apply Kd.R_drewN | apply Kd.R_drew)); exact Kd.R_mono HO244.out (fun _ hk => hk.2)), (by (with_reducible repeat (first | apply Kd.R_alloc | apply Kd.R_drewN | apply Kd.R_drew)); exact Kd.R_mono HO247.out (fun _ hk => ⟨hk.1.1, ⟨hk.1.2, hk.2⟩⟩)), (by (with_reducible repeat (first | apply Kd.R_alloc | apply Kd.R_drewN | apply Kd.R_drew)); exact Kd.R_mono HO250.out (fun _ hk => ⟨hk.1.1, ⟨hk.1.2, hk.2⟩⟩)), (by (with_reducible repeat (first | apply Kd.R_alloc | apply Kd.R_drewN | apply Kd.R_drew)); exact Kd.R_mono HO257.out (fun _ hk => hk.2)), (by (with_reducible repeat (first | apply Kd.R_alloc | apply Kd.R_drewN | apply Kd.R_drew)); exact Kd.R_mono HO260.out (fun _ hk => ⟨hk.1.2, ⟨hk.2, hk.1.1⟩⟩)), (by (with_reducible repeat (first | apply Kd.R_alloc | apply Kd.R_drewN | apply Kd.R_drew)); exact Kd.R_mono HO263.out (fun _ hk => ⟨hk.1.2, ⟨hk.2, hk.1.1⟩⟩)), (bx BK239.out), (bx BK240.out), (bx BK266.out), GW266.out, GE266.out, NB239_266.out, NB266_239.out, NB240_266.out, NB266_240.out, (be w)⟩)
     ·
      skip
      refine box_step ?hg (N := 6) ?hd (cs := #[.slice none 0 0, .slice none 0 0, .slice none 0 0, .int .i64 0, .int .i64 0]) (t := 34) ?hr ?_; (case hd => rfl); (case hg => rfl); (case hr => first | (go_simp; done) | (go_simp; rfl))
      intro gb266 hg w21 hbox hb
      replace HO244 := As.mk (Kd.R_below (by (with_reducible repeat (first | apply Kd.R_alloc | apply Kd.R_drewN | apply Kd.R_drew)); exact HO244.out) hb)
      replace HO247 := As.mk (Kd.R_below (by (with_reducible repeat (first | apply Kd.R_alloc | apply Kd.R_drewN | apply Kd.R_drew)); exact HO247.out) hb)
      replace HO250 := As.mk (Kd.R_below (by (with_reducible repeat (first | apply Kd.R_alloc | apply Kd.R_drewN | apply Kd.R_drew)); exact HO250.out) hb)
      have BK266 := As.mk (hbox)
      have GW266 := As.mk (gs w hg)
      have GE266 := As.mk (gs w hg)
      replace HB := As.mk (below_step (be w) hb)
      have NB239_266 := As.mk (nl hg (bx BK239.out))
      have NB266_239 := As.mk (ng hg (bx BK239.out))
      replace BK239 := As.mk (blk_below (bx BK239.out) hb)
      have NB240_266 := As.mk (nl hg (bx BK240.out))
      have NB266_240 := As.mk (ng hg (bx BK240.out))
      replace BK240 := As.mk (blk_below (bx BK240.out) hb)
      clear hb hbox hg
      refine hK.out _ _ ⟨(blk_cell BK239.out 0).trans rfl, (blk_cell BK239.out 1).trans rfl, (blk_cell BK239.out 2).trans rfl, (blk_cell BK239.out 3).trans rfl, (blk_cell BK239.out 4).trans rfl, (blk_cell BK240.out 0).trans rfl, (blk_cell BK240.out 1).trans rfl⟩ (fun hHeld => ?_)
      clear hK K
      refine norm_ (a' := ?_) ?_ ?_
      rotate_left
      ·
       show Act.put _ (some 6) _ = _
       simp only [pk, i64_w, i32_w]
       rfl
      refine one_ (i := 3) (N := some 21) #[I, I, I, I, O, I, O] rfl rfl (by kernel_rfl) (by decide) (fun K hK => ?_)
      refine goes_ Try.func26 (by kernel_rfl) rfl #[.agg #[.int .i64 a1_0, .int .i64 a1_1]] (by rfl) rfl rfl (by (try simp only [lm]); first | done | rfl | (simp only [List.length_drop, List.length_take]; rfl)) ?_
      with_reducible refine (laws_toValue.calls a1_0 a1_1 t253 t254 _ A12.out).mono ?_
      rintro e w22 ⟨rfl, hb⟩
      refine ⟨_, rfl, ?_⟩
      replace HO244 := As.mk (Kd.R_below (by (with_reducible repeat (first | apply Kd.R_alloc | apply Kd.R_drewN | apply Kd.R_drew)); exact HO244.out) hb)
      replace HO247 := As.mk (Kd.R_below (by (with_reducible repeat (first | apply Kd.R_alloc | apply Kd.R_drewN | apply Kd.R_drew)); exact HO247.out) hb)
      replace HO250 := As.mk (Kd.R_below (by (with_reducible repeat (first | apply Kd.R_alloc | apply Kd.R_drewN | apply Kd.R_drew)); exact HO250.out) hb)
      replace BK239 := As.mk (blk_below (bx BK239.out) hb)
      replace BK240 := As.mk (blk_below (bx BK240.out) hb)
      replace BK266 := As.mk (blk_below (bx BK266.out) hb)
      replace HB := As.mk (below_step (be w) hb)
      (try clear hb)
      (try clear hb2)
      (try clear hk)
      (try clear hi)
      obtain ⟨Ao23, co23, eo23⟩ := Kd.R_slice HO244.out
      (first | subst eo23 | (injection eo23 with f1_ f2_ f3_; have f4_ := f1_.symm; have f5_ := f3_.symm; clear f1_ f2_ f3_; subst f4_; subst f5_))
      obtain ⟨Ao24, co24, eo24⟩ := Kd.R_slice HO247.out
      (first | subst eo24 | (injection eo24 with f1_ f2_ f3_; have f4_ := f1_.symm; have f5_ := f3_.symm; clear f1_ f2_ f3_; subst f4_; subst f5_))
      obtain ⟨Ao25, co25, eo25⟩ := Kd.R_slice HO250.out
      (first | subst eo25 | (injection eo25 with f1_ f2_ f3_; have f4_ := f1_.symm; have f5_ := f3_.symm; clear f1_ f2_ f3_; subst f4_; subst f5_))
      refine hK.out _ _ ⟨(blk_cell BK239.out 0).trans rfl, (blk_cell BK239.out 1).trans rfl, (blk_cell BK239.out 2).trans rfl, (blk_cell BK239.out 3).trans rfl, (blk_cell BK239.out 4).trans rfl, (blk_cell BK240.out 0).trans rfl, (blk_cell BK240.out 1).trans rfl⟩ (fun hHeld => ?_)
      clear hK K
      refine norm_ (a' := ?_) ?_ ?_
      rotate_left
      ·
       show Act.put _ (some 21) _ = _
       simp only [pk, i64_w, i32_w]
       rfl
      refine one_ (i := 4) (N := some 22) #[I, I, I, I, I, I, O] rfl rfl (by kernel_rfl) (by decide) (fun K hK => ?_)
      refine goes_ Try.func24 (by kernel_rfl) rfl #[.agg #[.slice Ao23 t242.length co23, .slice Ao24 t245.length co24, .slice Ao25 t248.length co25, .int .i64 t251, .int .i64 t252], .agg #[.int .i64 t253, .int .i64 t254]] (by rfl) rfl rfl (by (try simp only [lm]); first | done | rfl | (simp only [List.length_drop, List.length_take]; rfl)) ?_
      with_reducible refine (spec_Freed.calls _ _ t242 _ _ t245 _ _ t248 t251 t252 t253 t254 t255 t258 t261 t264 t265 _ ?side1 ?side2 ?side3 ?side4 ?side5 ?side6 A13.out).mono ?_
      (case side1 => repeat (first | exact (Kd.R_reads' HO244.out).2.2 | (with_reducible refine Kd.C_alloc ?_ _) | (with_reducible refine Kd.C_drewN ?_ _) | (with_reducible refine Kd.C_drew ?_)))
      (case side2 => exact (Kd.R_reads' HO244.out).2.1)
      (case side3 => repeat (first | exact (Kd.R_reads' HO247.out).2.2 | (with_reducible refine Kd.C_alloc ?_ _) | (with_reducible refine Kd.C_drewN ?_ _) | (with_reducible refine Kd.C_drew ?_)))
      (case side4 => exact (Kd.R_reads' HO247.out).2.1)
      (case side5 => repeat (first | exact (Kd.R_reads' HO250.out).2.2 | (with_reducible refine Kd.C_alloc ?_ _) | (with_reducible refine Kd.C_drewN ?_ _) | (with_reducible refine Kd.C_drew ?_)))
      (case side6 => exact (Kd.R_reads' HO250.out).2.1)
      rintro e w26 ⟨v256, v259, v262, rfl, ho0, ho1, ho2, hb⟩
      refine ⟨_, rfl, ?_⟩
      have HO257 := As.mk (Kd.R_lower (Kd.R_new' ho0 (Kd.R_lt (by (with_reducible repeat (first | apply Kd.R_alloc | apply Kd.R_drewN | apply Kd.R_drew)); exact HO244.out))) (below_size (be w)))
      replace HO244 := As.mk (Kd.R_elder' (by (with_reducible repeat (first | apply Kd.R_alloc | apply Kd.R_drewN | apply Kd.R_drew)); exact HO244.out) (Kd.R_base ho0) hb)
      have HO260 := As.mk (Kd.R_lower (Kd.R_new' (Kd.R_new' ho1 (Kd.R_lt (by (with_reducible repeat (first | apply Kd.R_alloc | apply Kd.R_drewN | apply Kd.R_drew)); exact HO247.out))) (Kd.R_lt (by (with_reducible repeat (first | apply Kd.R_alloc | apply Kd.R_drewN | apply Kd.R_drew)); exact HO250.out))) (below_size (be w)))
      have HO263 := As.mk (Kd.R_lower (Kd.R_new' (Kd.R_new' ho2 (Kd.R_lt (by (with_reducible repeat (first | apply Kd.R_alloc | apply Kd.R_drewN | apply Kd.R_drew)); exact HO247.out))) (Kd.R_lt (by (with_reducible repeat (first | apply Kd.R_alloc | apply Kd.R_drewN | apply Kd.R_drew)); exact HO250.out))) (below_size (be w)))
      replace HO247 := As.mk (Kd.R_mono (Kd.R_told (Kd.R_told (Kd.R_old (by (with_reducible repeat (first | apply Kd.R_alloc | apply Kd.R_drewN | apply Kd.R_drew)); exact HO247.out) hb) (Kd.R_base ho1)) (Kd.R_base ho2)) (fun _ h_ => h_.1))
      replace HO250 := As.mk (Kd.R_mono (Kd.R_told (Kd.R_told (Kd.R_old (by (with_reducible repeat (first | apply Kd.R_alloc | apply Kd.R_drewN | apply Kd.R_drew)); exact HO250.out) hb) (Kd.R_base ho1)) (Kd.R_base ho2)) (fun _ h_ => h_.1))
      replace BK239 := As.mk (blk_below (bx BK239.out) hb)
      replace BK240 := As.mk (blk_below (bx BK240.out) hb)
      replace BK266 := As.mk (blk_below (bx BK266.out) hb)
      replace HB := As.mk (below_step (be w) hb)
      (try clear hb)
      (try clear hb2)
      (try clear hk)
      (try clear hi)
      (try clear ho0)
      (try clear ho1)
      (try clear ho2)
      refine hK.out _ _ ⟨(blk_cell BK239.out 0).trans rfl, (blk_cell BK239.out 1).trans rfl, (blk_cell BK239.out 2).trans rfl, (blk_cell BK239.out 3).trans rfl, (blk_cell BK239.out 4).trans rfl, (blk_cell BK240.out 0).trans rfl, (blk_cell BK240.out 1).trans rfl⟩ (fun hHeld => ?_)
      clear hK K
      refine norm_ (a' := ?_) ?_ ?_
      rotate_left
      ·
       show Act.put _ (some 22) _ = _
       simp only [pk, i64_w, i32_w]
       rfl
      exact norm_ (by simp only [putAll, Act.put, List.setIfInBounds_toArray, List.set_cons_zero, List.set_cons_succ]) (hCont (.slice Ao23 t242.length co23, .slice Ao24 t245.length co24, .slice Ao25 t248.length co25, v256, v259, v262, gb266) _ ⟨hHeld, (by (with_reducible repeat (first | apply Kd.R_alloc | apply Kd.R_drewN | apply Kd.R_drew)); exact Kd.R_mono HO244.out (fun _ hk => hk.2)), (by (with_reducible repeat (first | apply Kd.R_alloc | apply Kd.R_drewN | apply Kd.R_drew)); exact Kd.R_mono HO247.out (fun _ hk => ⟨hk.1.1, ⟨hk.1.2, hk.2⟩⟩)), (by (with_reducible repeat (first | apply Kd.R_alloc | apply Kd.R_drewN | apply Kd.R_drew)); exact Kd.R_mono HO250.out (fun _ hk => ⟨hk.1.1, ⟨hk.1.2, hk.2⟩⟩)), (by (with_reducible repeat (first | apply Kd.R_alloc | apply Kd.R_drewN | apply Kd.R_drew)); exact Kd.R_mono HO257.out (fun _ hk => hk.2)), (by (with_reducible repeat (first | apply Kd.R_alloc | apply Kd.R_drewN | apply Kd.R_drew)); exact Kd.R_mono HO260.out (fun _ hk => ⟨hk.1.2, ⟨hk.2, hk.1.1⟩⟩)), (by (with_reducible repeat (first | apply Kd.R_alloc | apply Kd.R_drewN | apply Kd.R_drew)); exact Kd.R_mono HO263.out (fun _ hk => ⟨hk.1.2, ⟨hk.2, hk.1.1⟩⟩)), (bx BK239.out), (bx BK240.out), (bx BK266.out), GW266.out, GE266.out, NB239_266.out, NB266_239.out, NB240_266.out, NB266_240.out, (be w)⟩)
    ·
     skip
     refine box_step ?hg (N := 6) ?hd (cs := #[.slice none 0 0, .slice none 0 0, .slice none 0 0, .int .i64 0, .int .i64 0]) (t := 34) ?hr ?_; (case hd => rfl); (case hg => rfl); (case hr => first | (go_simp; done) | (go_simp; rfl))
     intro gb266 hg w20 hbox hb
     have BK266 := As.mk (hbox)
     have GW266 := As.mk (gs w hg)
     have GE266 := As.mk (gs w hg)
     replace HB := As.mk (below_step (be w) hb)
     have NB239_266 := As.mk (nl hg (bx BK239.out))
     have NB266_239 := As.mk (ng hg (bx BK239.out))
     replace BK239 := As.mk (blk_below (bx BK239.out) hb)
     have NB240_266 := As.mk (nl hg (bx BK240.out))
     have NB266_240 := As.mk (ng hg (bx BK240.out))
     replace BK240 := As.mk (blk_below (bx BK240.out) hb)
     clear hb hbox hg
     refine hK.out _ _ ⟨(blk_cell BK239.out 0).trans rfl, (blk_cell BK239.out 1).trans rfl, (blk_cell BK239.out 2).trans rfl, (blk_cell BK239.out 3).trans rfl, (blk_cell BK239.out 4).trans rfl, (blk_cell BK240.out 0).trans rfl, (blk_cell BK240.out 1).trans rfl⟩ (fun hHeld => ?_)
     clear hK K
     refine norm_ (a' := ?_) ?_ ?_
     rotate_left
     ·
      show Act.put _ (some 6) _ = _
      simp only [pk, i64_w, i32_w]
      rfl
     refine one_ (i := 1) (N := some 19) #[I, I, I, O, O, I, O] rfl rfl (by kernel_rfl) (by decide) (fun K hK => ?_)
     refine goes_ Try.func25 (by kernel_rfl) rfl #[.agg #[.slice A0_0 l0_0.length c0_0, .slice A0_1 l0_1.length c0_1, .slice A0_2 l0_2.length c0_2, .int .i64 a0_3, .int .i64 a0_4]] (by rfl) rfl rfl (by (try simp only [lm]); first | done | rfl | (simp only [List.length_drop, List.length_take]; rfl)) ?_
     with_reducible refine (laws_toMemory.calls kj3 _ _ l0_0 _ _ l0_1 _ _ l0_2 a0_3 a0_4 t242 t245 t248 t251 t252 _ ?side1 ?side2 ?side3 ?side4 ?side5 ?side6 A11.out).mono ?_
     (case side1 => exact Kd.C_below HR0_0.out (be w))
     (case side2 => exact HC0_0.out)
     (case side3 => exact Kd.C_below HR0_1.out (be w))
     (case side4 => exact HC0_1.out)
     (case side5 => exact Kd.C_below HR0_2.out (be w))
     (case side6 => exact HC0_2.out)
     rintro e w21 ⟨v243, v246, v249, rfl, ho0, ho1, ho2, hb⟩
     refine ⟨_, rfl, ?_⟩
     have HO244 := As.mk (Kd.R_lower ho0 (below_size (be w)))
     have HO247 := As.mk (Kd.R_lower ho1 (below_size (be w)))
     have HO250 := As.mk (Kd.R_lower ho2 (below_size (be w)))
     replace BK239 := As.mk (blk_below (bx BK239.out) hb)
     replace BK240 := As.mk (blk_below (bx BK240.out) hb)
     replace BK266 := As.mk (blk_below (bx BK266.out) hb)
     replace HB := As.mk (below_step (be w) hb)
     (try clear hb)
     (try clear hb2)
     (try clear hk)
     (try clear hi)
     (try clear ho0)
     (try clear ho1)
     (try clear ho2)
     refine hK.out _ _ ⟨(blk_cell BK239.out 0).trans rfl, (blk_cell BK239.out 1).trans rfl, (blk_cell BK239.out 2).trans rfl, (blk_cell BK239.out 3).trans rfl, (blk_cell BK239.out 4).trans rfl, (blk_cell BK240.out 0).trans rfl, (blk_cell BK240.out 1).trans rfl⟩ (fun hHeld => ?_)
     clear hK K
     refine norm_ (a' := ?_) ?_ ?_
     rotate_left
     ·
      show Act.put _ (some 19) _ = _
      simp only [pk, i64_w, i32_w]
      rfl
     refine one_ (i := 3) (N := some 21) #[I, I, I, I, O, I, O] rfl rfl (by kernel_rfl) (by decide) (fun K hK => ?_)
     refine goes_ Try.func26 (by kernel_rfl) rfl #[.agg #[.int .i64 a1_0, .int .i64 a1_1]] (by rfl) rfl rfl (by (try simp only [lm]); first | done | rfl | (simp only [List.length_drop, List.length_take]; rfl)) ?_
     with_reducible refine (laws_toValue.calls a1_0 a1_1 t253 t254 _ A12.out).mono ?_
     rintro e w22 ⟨rfl, hb⟩
     refine ⟨_, rfl, ?_⟩
     replace HO244 := As.mk (Kd.R_below (by (with_reducible repeat (first | apply Kd.R_alloc | apply Kd.R_drewN | apply Kd.R_drew)); exact HO244.out) hb)
     replace HO247 := As.mk (Kd.R_below (by (with_reducible repeat (first | apply Kd.R_alloc | apply Kd.R_drewN | apply Kd.R_drew)); exact HO247.out) hb)
     replace HO250 := As.mk (Kd.R_below (by (with_reducible repeat (first | apply Kd.R_alloc | apply Kd.R_drewN | apply Kd.R_drew)); exact HO250.out) hb)
     replace BK239 := As.mk (blk_below (bx BK239.out) hb)
     replace BK240 := As.mk (blk_below (bx BK240.out) hb)
     replace BK266 := As.mk (blk_below (bx BK266.out) hb)
     replace HB := As.mk (below_step (be w) hb)
     (try clear hb)
     (try clear hb2)
     (try clear hk)
     (try clear hi)
     obtain ⟨Ao23, co23, eo23⟩ := Kd.R_slice HO244.out
     (first | subst eo23 | (injection eo23 with f1_ f2_ f3_; have f4_ := f1_.symm; have f5_ := f3_.symm; clear f1_ f2_ f3_; subst f4_; subst f5_))
     obtain ⟨Ao24, co24, eo24⟩ := Kd.R_slice HO247.out
     (first | subst eo24 | (injection eo24 with f1_ f2_ f3_; have f4_ := f1_.symm; have f5_ := f3_.symm; clear f1_ f2_ f3_; subst f4_; subst f5_))
     obtain ⟨Ao25, co25, eo25⟩ := Kd.R_slice HO250.out
     (first | subst eo25 | (injection eo25 with f1_ f2_ f3_; have f4_ := f1_.symm; have f5_ := f3_.symm; clear f1_ f2_ f3_; subst f4_; subst f5_))
     refine hK.out _ _ ⟨(blk_cell BK239.out 0).trans rfl, (blk_cell BK239.out 1).trans rfl, (blk_cell BK239.out 2).trans rfl, (blk_cell BK239.out 3).trans rfl, (blk_cell BK239.out 4).trans rfl, (blk_cell BK240.out 0).trans rfl, (blk_cell BK240.out 1).trans rfl⟩ (fun hHeld => ?_)
     clear hK K
     refine norm_ (a' := ?_) ?_ ?_
     rotate_left
     ·
      show Act.put _ (some 21) _ = _
      simp only [pk, i64_w, i32_w]
      rfl
     refine one_ (i := 4) (N := some 22) #[I, I, I, I, I, I, O] rfl rfl (by kernel_rfl) (by decide) (fun K hK => ?_)
     refine goes_ Try.func24 (by kernel_rfl) rfl #[.agg #[.slice Ao23 t242.length co23, .slice Ao24 t245.length co24, .slice Ao25 t248.length co25, .int .i64 t251, .int .i64 t252], .agg #[.int .i64 t253, .int .i64 t254]] (by rfl) rfl rfl (by (try simp only [lm]); first | done | rfl | (simp only [List.length_drop, List.length_take]; rfl)) ?_
     with_reducible refine (spec_Freed.calls _ _ t242 _ _ t245 _ _ t248 t251 t252 t253 t254 t255 t258 t261 t264 t265 _ ?side1 ?side2 ?side3 ?side4 ?side5 ?side6 A13.out).mono ?_
     (case side1 => repeat (first | exact (Kd.R_reads' HO244.out).2.2 | (with_reducible refine Kd.C_alloc ?_ _) | (with_reducible refine Kd.C_drewN ?_ _) | (with_reducible refine Kd.C_drew ?_)))
     (case side2 => exact (Kd.R_reads' HO244.out).2.1)
     (case side3 => repeat (first | exact (Kd.R_reads' HO247.out).2.2 | (with_reducible refine Kd.C_alloc ?_ _) | (with_reducible refine Kd.C_drewN ?_ _) | (with_reducible refine Kd.C_drew ?_)))
     (case side4 => exact (Kd.R_reads' HO247.out).2.1)
     (case side5 => repeat (first | exact (Kd.R_reads' HO250.out).2.2 | (with_reducible refine Kd.C_alloc ?_ _) | (with_reducible refine Kd.C_drewN ?_ _) | (with_reducible refine Kd.C_drew ?_)))
     (case side6 => exact (Kd.R_reads' HO250.out).2.1)
     rintro e w26 ⟨v256, v259, v262, rfl, ho0, ho1, ho2, hb⟩
     refine ⟨_, rfl, ?_⟩
     have HO257 := As.mk (Kd.R_lower (Kd.R_new' ho0 (Kd.R_lt (by (with_reducible repeat (first | apply Kd.R_alloc | apply Kd.R_drewN | apply Kd.R_drew)); exact HO244.out))) (below_size (be w)))
     replace HO244 := As.mk (Kd.R_elder' (by (with_reducible repeat (first | apply Kd.R_alloc | apply Kd.R_drewN | apply Kd.R_drew)); exact HO244.out) (Kd.R_base ho0) hb)
     have HO260 := As.mk (Kd.R_lower (Kd.R_new' (Kd.R_new' ho1 (Kd.R_lt (by (with_reducible repeat (first | apply Kd.R_alloc | apply Kd.R_drewN | apply Kd.R_drew)); exact HO247.out))) (Kd.R_lt (by (with_reducible repeat (first | apply Kd.R_alloc | apply Kd.R_drewN | apply Kd.R_drew)); exact HO250.out))) (below_size (be w)))
     have HO263 := As.mk (Kd.R_lower (Kd.R_new' (Kd.R_new' ho2 (Kd.R_lt (by (with_reducible repeat (first | apply Kd.R_alloc | apply Kd.R_drewN | apply Kd.R_drew)); exact HO247.out))) (Kd.R_lt (by (with_reducible repeat (first | apply Kd.R_alloc | apply Kd.R_drewN | apply Kd.R_drew)); exact HO250.out))) (below_size (be w)))
     replace HO247 := As.mk (Kd.R_mono (Kd.R_told (Kd.R_told (Kd.R_old (by (with_reducible repeat (first | apply Kd.R_alloc | apply Kd.R_drewN | apply Kd.R_drew)); exact HO247.out) hb) (Kd.R_base ho1)) (Kd.R_base ho2)) (fun _ h_ => h_.1))
     replace HO250 := As.mk (Kd.R_mono (Kd.R_told (Kd.R_told (Kd.R_old (by (with_reducible repeat (first | apply Kd.R_alloc | apply Kd.R_drewN | apply Kd.R_drew)); exact HO250.out) hb) (Kd.R_base ho1)) (Kd.R_base ho2)) (fun _ h_ => h_.1))
     replace BK239 := As.mk (blk_below (bx BK239.out) hb)
     replace BK240 := As.mk (blk_below (bx BK240.out) hb)
     replace BK266 := As.mk (blk_below (bx BK266.out) hb)
     replace HB := As.mk (below_step (be w) hb)
     (try clear hb)
     (try clear hb2)
     (try clear hk)
     (try clear hi)
     (try clear ho0)
     (try clear ho1)
     (try clear ho2)
     refine hK.out _ _ ⟨(blk_cell BK239.out 0).trans rfl, (blk_cell BK239.out 1).trans rfl, (blk_cell BK239.out 2).trans rfl, (blk_cell BK239.out 3).trans rfl, (blk_cell BK239.out 4).trans rfl, (blk_cell BK240.out 0).trans rfl, (blk_cell BK240.out 1).trans rfl⟩ (fun hHeld => ?_)
     clear hK K
     refine norm_ (a' := ?_) ?_ ?_
     rotate_left
     ·
      show Act.put _ (some 22) _ = _
      simp only [pk, i64_w, i32_w]
      rfl
     exact norm_ (by simp only [putAll, Act.put, List.setIfInBounds_toArray, List.set_cons_zero, List.set_cons_succ]) (hCont (.slice Ao23 t242.length co23, .slice Ao24 t245.length co24, .slice Ao25 t248.length co25, v256, v259, v262, gb266) _ ⟨hHeld, (by (with_reducible repeat (first | apply Kd.R_alloc | apply Kd.R_drewN | apply Kd.R_drew)); exact Kd.R_mono HO244.out (fun _ hk => hk.2)), (by (with_reducible repeat (first | apply Kd.R_alloc | apply Kd.R_drewN | apply Kd.R_drew)); exact Kd.R_mono HO247.out (fun _ hk => ⟨hk.1.1, ⟨hk.1.2, hk.2⟩⟩)), (by (with_reducible repeat (first | apply Kd.R_alloc | apply Kd.R_drewN | apply Kd.R_drew)); exact Kd.R_mono HO250.out (fun _ hk => ⟨hk.1.1, ⟨hk.1.2, hk.2⟩⟩)), (by (with_reducible repeat (first | apply Kd.R_alloc | apply Kd.R_drewN | apply Kd.R_drew)); exact Kd.R_mono HO257.out (fun _ hk => hk.2)), (by (with_reducible repeat (first | apply Kd.R_alloc | apply Kd.R_drewN | apply Kd.R_drew)); exact Kd.R_mono HO260.out (fun _ hk => ⟨hk.1.2, ⟨hk.2, hk.1.1⟩⟩)), (by (with_reducible repeat (first | apply Kd.R_alloc | apply Kd.R_drewN | apply Kd.R_drew)); exact Kd.R_mono HO263.out (fun _ hk => ⟨hk.1.2, ⟨hk.2, hk.1.1⟩⟩)), (bx BK239.out), (bx BK240.out), (bx BK266.out), GW266.out, GE266.out, NB239_266.out, NB266_239.out, NB240_266.out, NB266_240.out, (be w)⟩)
   rintro ⟨v243, v246, v249, v256, v259, v262, gb266⟩ w27 ⟨hS_, h0_, h1_, h2_, h3_, h4_, h5_, h6_, h7_, h8_, h9_, h10_, h11_, h12_, h13_, h14_, h15_⟩
   have n0_ : As (Kd.R k93 93 w27 w.heap.size (fun k_ => some k_ ≠ (v256 : Value).ownBlock) v243 t242) := ⟨h0_⟩
   have n1_ : As (Kd.R (Kd.int .i64) 3 w27 w.heap.size (fun k_ => some k_ ≠ (v249 : Value).ownBlock ∧ some k_ ≠ (v259 : Value).ownBlock ∧ some k_ ≠ (v262 : Value).ownBlock) v246 t245) := ⟨h1_⟩
   have n2_ : As (Kd.R (Kd.int .i64) 3 w27 w.heap.size (fun k_ => some k_ ≠ (v246 : Value).ownBlock ∧ some k_ ≠ (v259 : Value).ownBlock ∧ some k_ ≠ (v262 : Value).ownBlock) v249 t248) := ⟨h2_⟩
   have n3_ : As (Kd.R k93 93 w27 w.heap.size (fun k_ => some k_ ≠ (v243 : Value).ownBlock) v256 t255) := ⟨h3_⟩
   have n4_ : As (Kd.R (Kd.int .i64) 3 w27 w.heap.size (fun k_ => some k_ ≠ (v246 : Value).ownBlock ∧ some k_ ≠ (v249 : Value).ownBlock ∧ some k_ ≠ (v262 : Value).ownBlock) v259 t258) := ⟨h4_⟩
   have n5_ : As (Kd.R (Kd.int .i64) 3 w27 w.heap.size (fun k_ => some k_ ≠ (v246 : Value).ownBlock ∧ some k_ ≠ (v249 : Value).ownBlock ∧ some k_ ≠ (v259 : Value).ownBlock) v262 t261) := ⟨h5_⟩
   have n6_ : As (w27.heap[gb239]? = some (.cells #[.slice A0_0 l0_0.length c0_0, .slice A0_1 l0_1.length c0_1, .slice A0_2 l0_2.length c0_2, .int .i64 a0_3, .int .i64 a0_4] 47 (0, 0))) := ⟨h6_⟩
   have n7_ : As (w27.heap[gb240]? = some (.cells #[.int .i64 a1_0, .int .i64 a1_1] 48 (0, 0))) := ⟨h7_⟩
   have n8_ : As (w27.heap[gb266]? = some (.cells #[.slice none 0 0, .slice none 0 0, .slice none 0 0, .int .i64 0, .int .i64 0] 34 (0, 0))) := ⟨h8_⟩
   have n9_ : As (w.heap.size ≤ gb266) := ⟨h9_⟩
   have n10_ : As (w.heap.size ≤ gb266) := ⟨h10_⟩
   have n11_ : As (gb239 ≠ gb266) := ⟨h11_⟩
   have n12_ : As (gb266 ≠ gb239) := ⟨h12_⟩
   have n13_ : As (gb240 ≠ gb266) := ⟨h13_⟩
   have n14_ : As (gb266 ≠ gb240) := ⟨h14_⟩
   have n15_ : As (Below w.heap.size w w27) := ⟨h15_⟩
   clear BK239
   clear BK240
   clear HB
   clear h0_ h1_ h2_ h3_ h4_ h5_ h6_ h7_ h8_ h9_ h10_ h11_ h12_ h13_ h14_ h15_
   have HO244 := n0_
   have HO247 := n1_
   have HO250 := n2_
   have HO257 := n3_
   have HO260 := n4_
   have HO263 := n5_
   have BK239 := n6_
   have BK240 := n7_
   have BK266 := n8_
   have GW266 := n9_
   have GE266 := n10_
   have NB239_266 := n11_
   have NB266_239 := n12_
   have NB240_266 := n13_
   have NB266_240 := n14_
   have HB := n15_
   clear n0_ n1_ n2_ n3_ n4_ n5_ n6_ n7_ n8_ n9_ n10_ n11_ n12_ n13_ n14_ n15_
   have hHeld : w27.cell? ⟨gb239, 0, none⟩ = some (.slice A0_0 l0_0.length c0_0) ∧ w27.cell? ⟨gb239, 1, none⟩ = some (.slice A0_1 l0_1.length c0_1) ∧ w27.cell? ⟨gb239, 2, none⟩ = some (.slice A0_2 l0_2.length c0_2) ∧ w27.cell? ⟨gb239, 3, none⟩ = some (.int .i64 a0_3) ∧ w27.cell? ⟨gb239, 4, none⟩ = some (.int .i64 a0_4) ∧ w27.cell? ⟨gb240, 0, none⟩ = some (.int .i64 a1_0) ∧ w27.cell? ⟨gb240, 1, none⟩ = some (.int .i64 a1_1) := hS_
   obtain ⟨Ao28, co28, eo28⟩ := Kd.R_slice HO257.out
   (first | subst eo28 | (injection eo28 with f1_ f2_ f3_; have f4_ := f1_.symm; have f5_ := f3_.symm; clear f1_ f2_ f3_; subst f4_; subst f5_))
   obtain ⟨Ao30, co30, eo30⟩ := Kd.R_slice HO260.out
   (first | subst eo30 | (injection eo30 with f1_ f2_ f3_; have f4_ := f1_.symm; have f5_ := f3_.symm; clear f1_ f2_ f3_; subst f4_; subst f5_))
   obtain ⟨Ao32, co32, eo32⟩ := Kd.R_slice HO263.out
   (first | subst eo32 | (injection eo32 with f1_ f2_ f3_; have f4_ := f1_.symm; have f5_ := f3_.symm; clear f1_ f2_ f3_; subst f4_; subst f5_))
   refine norm_ (a' := ?_) ?_ ?_
   rotate_left
   ·
    simp only [putAll, Act.put, List.setIfInBounds_toArray, List.set_cons_zero, List.set_cons_succ]
    rfl
   refine one_ (i := 6) (N := none) #[I, I, I, I, I, I, I] rfl rfl (by kernel_rfl) (by decide) (fun K hK => ?_)
   have hs29 : w27.cell? ⟨gb266, 0, none⟩ = some (.slice none 0 0) := (blk_cell BK266.out 0).trans rfl
   have hfs29 := blk_frozen BK266.out 0
   have hns29_0 := NB239_266.out
   have hns29_1 := NB240_266.out
   have hms29_0 := NB266_239.out
   have hms29_1 := NB266_240.out
   have hs31 : w27.cell? ⟨gb266, 1, none⟩ = some (.slice none 0 0) := (blk_cell BK266.out 1).trans rfl
   have hfs31 := blk_frozen BK266.out 1
   have hns31_0 := NB239_266.out
   have hns31_1 := NB240_266.out
   have hms31_0 := NB266_239.out
   have hms31_1 := NB266_240.out
   have hs33 : w27.cell? ⟨gb266, 2, none⟩ = some (.slice none 0 0) := (blk_cell BK266.out 2).trans rfl
   have hfs33 := blk_frozen BK266.out 2
   have hns33_0 := NB239_266.out
   have hns33_1 := NB240_266.out
   have hms33_0 := NB266_239.out
   have hms33_1 := NB266_240.out
   have hs34 : w27.cell? ⟨gb266, 3, none⟩ = some (.int .i64 0) := (blk_cell BK266.out 3).trans rfl
   have hfs34 := blk_frozen BK266.out 3
   have hns34_0 := NB239_266.out
   have hns34_1 := NB240_266.out
   have hms34_0 := NB266_239.out
   have hms34_1 := NB266_240.out
   have hs35 : w27.cell? ⟨gb266, 4, none⟩ = some (.int .i64 0) := (blk_cell BK266.out 4).trans rfl
   have hfs35 := blk_frozen BK266.out 4
   have hns35_0 := NB239_266.out
   have hns35_1 := NB240_266.out
   have hms35_0 := NB266_239.out
   have hms35_1 := NB266_240.out
   refine skip_ (w1 := ?_) (by rfl) rfl ?_ ?_
   rotate_left
   ·
    go_simp
    rfl
   refine hK.out _ _ ⟨((cell_far (p := ⟨gb266, _, none⟩) NB239_266.out _).trans (((cell_far (p := ⟨gb266, _, none⟩) NB239_266.out _).trans (((cell_far (p := ⟨gb266, _, none⟩) NB239_266.out _).trans (((cell_far (p := ⟨gb266, _, none⟩) NB239_266.out _).trans (((cell_far (p := ⟨gb266, _, none⟩) NB239_266.out _).trans (hHeld.1)))))))))), ((cell_far (p := ⟨gb266, _, none⟩) NB239_266.out _).trans (((cell_far (p := ⟨gb266, _, none⟩) NB239_266.out _).trans (((cell_far (p := ⟨gb266, _, none⟩) NB239_266.out _).trans (((cell_far (p := ⟨gb266, _, none⟩) NB239_266.out _).trans (((cell_far (p := ⟨gb266, _, none⟩) NB239_266.out _).trans (hHeld.2.1)))))))))), ((cell_far (p := ⟨gb266, _, none⟩) NB239_266.out _).trans (((cell_far (p := ⟨gb266, _, none⟩) NB239_266.out _).trans (((cell_far (p := ⟨gb266, _, none⟩) NB239_266.out _).trans (((cell_far (p := ⟨gb266, _, none⟩) NB239_266.out _).trans (((cell_far (p := ⟨gb266, _, none⟩) NB239_266.out _).trans (hHeld.2.2.1)))))))))), ((cell_far (p := ⟨gb266, _, none⟩) NB239_266.out _).trans (((cell_far (p := ⟨gb266, _, none⟩) NB239_266.out _).trans (((cell_far (p := ⟨gb266, _, none⟩) NB239_266.out _).trans (((cell_far (p := ⟨gb266, _, none⟩) NB239_266.out _).trans (((cell_far (p := ⟨gb266, _, none⟩) NB239_266.out _).trans (hHeld.2.2.2.1)))))))))), ((cell_far (p := ⟨gb266, _, none⟩) NB239_266.out _).trans (((cell_far (p := ⟨gb266, _, none⟩) NB239_266.out _).trans (((cell_far (p := ⟨gb266, _, none⟩) NB239_266.out _).trans (((cell_far (p := ⟨gb266, _, none⟩) NB239_266.out _).trans (((cell_far (p := ⟨gb266, _, none⟩) NB239_266.out _).trans (hHeld.2.2.2.2.1)))))))))), ((cell_far (p := ⟨gb266, _, none⟩) NB240_266.out _).trans (((cell_far (p := ⟨gb266, _, none⟩) NB240_266.out _).trans (((cell_far (p := ⟨gb266, _, none⟩) NB240_266.out _).trans (((cell_far (p := ⟨gb266, _, none⟩) NB240_266.out _).trans (((cell_far (p := ⟨gb266, _, none⟩) NB240_266.out _).trans (hHeld.2.2.2.2.2.1)))))))))), ((cell_far (p := ⟨gb266, _, none⟩) NB240_266.out _).trans (((cell_far (p := ⟨gb266, _, none⟩) NB240_266.out _).trans (((cell_far (p := ⟨gb266, _, none⟩) NB240_266.out _).trans (((cell_far (p := ⟨gb266, _, none⟩) NB240_266.out _).trans (((cell_far (p := ⟨gb266, _, none⟩) NB240_266.out _).trans (hHeld.2.2.2.2.2.2))))))))))⟩ (fun hHeld => ?_)
   clear hK K
   refine done_ (by kernel_rfl) ?_
   have hnb36 := NB239_240.out
   have hnc36 := NB240_239.out
   have hnb37 := NB239_266.out
   have hnc37 := NB266_239.out
   obtain ⟨hcz38_0, hcz38_1, hcz38_2, hcz38_3, hcz38_4, hfz38_0, hfz38_1, hfz38_2, hfz38_3, hfz38_4⟩ := cl5 BK239.out
   try go_wp2_with (first | ((with_reducible refine gate_callee (f := 25) rfl ?_); refine goesL_ (some 24) rfl rfl Try.func25 (by kernel_rfl) rfl #[.agg #[.slice A0_0 l0_0.length c0_0, .slice A0_1 l0_1.length c0_1, .slice A0_2 l0_2.length c0_2, .int .i64 a0_3, .int .i64 a0_4]] rfl (by (try simp only [lm]); first | done | rfl | (simp only [List.length_drop, List.length_take]; rfl)) ?_; (with_reducible refine (laws_toMemory.calls kj3 _ _ l0_0 _ _ l0_1 _ _ l0_2 a0_3 a0_4 t267 t270 t273 t276 t277 _ ?side1 ?side2 ?side3 ?side4 ?side5 ?side6 A14.out).mono ?_); (case side1 => exact Kd.C_below HR0_0.out (be w)); (case side2 => exact HC0_0.out); (case side3 => exact Kd.C_below HR0_1.out (be w)); (case side4 => exact HC0_1.out); (case side5 => exact Kd.C_below HR0_2.out (be w)); (case side6 => exact HC0_2.out); rintro e w39 ⟨v268, v271, v274, rfl, ho0, ho1, ho2, hb⟩; refine ⟨_, rfl, ?_⟩; have HO269 := As.mk (Kd.R_lower (Kd.R_new' (Kd.R_new' ho0 (Kd.R_lt (by (with_reducible repeat (first | apply Kd.R_alloc | apply Kd.R_drewN | apply Kd.R_drew)); exact (Kd.R_mono (Kd.R_far (p := ⟨gb266, 4, none⟩) (Kd.R_far (p := ⟨gb266, 3, none⟩) (Kd.R_far (p := ⟨gb266, 2, none⟩) (Kd.R_far (p := ⟨gb266, 1, none⟩) (Kd.R_far (p := ⟨gb266, 0, none⟩) (Kd.R_types HO244.out BK266.out (by decide)) (fun _ hk => hk.2) (.slice Ao28 t255.length co28)) (fun _ hk => hk.2) (.slice Ao30 t258.length co30)) (fun _ hk => hk.2) (.slice Ao32 t261.length co32)) (fun _ hk => hk.2) (.int .i64 t264)) (fun _ hk => hk.2) (.int .i64 t265)) (fun _ h_ => h_.1))))) (Kd.R_lt (by (with_reducible repeat (first | apply Kd.R_alloc | apply Kd.R_drewN | apply Kd.R_drew)); exact (Kd.R_mono (Kd.R_far (p := ⟨gb266, 4, none⟩) (Kd.R_far (p := ⟨gb266, 3, none⟩) (Kd.R_far (p := ⟨gb266, 2, none⟩) (Kd.R_far (p := ⟨gb266, 1, none⟩) (Kd.R_far (p := ⟨gb266, 0, none⟩) (Kd.R_types HO257.out BK266.out (by decide)) (fun _ hk => hk.2) (.slice Ao28 t255.length co28)) (fun _ hk => hk.2) (.slice Ao30 t258.length co30)) (fun _ hk => hk.2) (.slice Ao32 t261.length co32)) (fun _ hk => hk.2) (.int .i64 t264)) (fun _ hk => hk.2) (.int .i64 t265)) (fun _ h_ => h_.1))))) (below_size (be w))); replace HO244 := As.mk (Kd.R_elder' (by (with_reducible repeat (first | apply Kd.R_alloc | apply Kd.R_drewN | apply Kd.R_drew)); exact (Kd.R_mono (Kd.R_far (p := ⟨gb266, 4, none⟩) (Kd.R_far (p := ⟨gb266, 3, none⟩) (Kd.R_far (p := ⟨gb266, 2, none⟩) (Kd.R_far (p := ⟨gb266, 1, none⟩) (Kd.R_far (p := ⟨gb266, 0, none⟩) (Kd.R_types HO244.out BK266.out (by decide)) (fun _ hk => hk.2) (.slice Ao28 t255.length co28)) (fun _ hk => hk.2) (.slice Ao30 t258.length co30)) (fun _ hk => hk.2) (.slice Ao32 t261.length co32)) (fun _ hk => hk.2) (.int .i64 t264)) (fun _ hk => hk.2) (.int .i64 t265)) (fun _ h_ => h_.1))) (Kd.R_base ho0) hb); replace HO257 := As.mk (Kd.R_elder' (by (with_reducible repeat (first | apply Kd.R_alloc | apply Kd.R_drewN | apply Kd.R_drew)); exact (Kd.R_mono (Kd.R_far (p := ⟨gb266, 4, none⟩) (Kd.R_far (p := ⟨gb266, 3, none⟩) (Kd.R_far (p := ⟨gb266, 2, none⟩) (Kd.R_far (p := ⟨gb266, 1, none⟩) (Kd.R_far (p := ⟨gb266, 0, none⟩) (Kd.R_types HO257.out BK266.out (by decide)) (fun _ hk => hk.2) (.slice Ao28 t255.length co28)) (fun _ hk => hk.2) (.slice Ao30 t258.length co30)) (fun _ hk => hk.2) (.slice Ao32 t261.length co32)) (fun _ hk => hk.2) (.int .i64 t264)) (fun _ hk => hk.2) (.int .i64 t265)) (fun _ h_ => h_.1))) (Kd.R_base ho0) hb); have HO272 := As.mk (Kd.R_lower (Kd.R_new' (Kd.R_new' (Kd.R_new' (Kd.R_new' ho1 (Kd.R_lt (by (with_reducible repeat (first | apply Kd.R_alloc | apply Kd.R_drewN | apply Kd.R_drew)); exact (Kd.R_mono (Kd.R_far (p := ⟨gb266, 4, none⟩) (Kd.R_far (p := ⟨gb266, 3, none⟩) (Kd.R_far (p := ⟨gb266, 2, none⟩) (Kd.R_far (p := ⟨gb266, 1, none⟩) (Kd.R_far (p := ⟨gb266, 0, none⟩) (Kd.R_types HO247.out BK266.out (by decide)) (fun _ hk => hk.2) (.slice Ao28 t255.length co28)) (fun _ hk => hk.2) (.slice Ao30 t258.length co30)) (fun _ hk => hk.2) (.slice Ao32 t261.length co32)) (fun _ hk => hk.2) (.int .i64 t264)) (fun _ hk => hk.2) (.int .i64 t265)) (fun _ h_ => h_.1))))) (Kd.R_lt (by (with_reducible repeat (first | apply Kd.R_alloc | apply Kd.R_drewN | apply Kd.R_drew)); exact (Kd.R_mono (Kd.R_far (p := ⟨gb266, 4, none⟩) (Kd.R_far (p := ⟨gb266, 3, none⟩) (Kd.R_far (p := ⟨gb266, 2, none⟩) (Kd.R_far (p := ⟨gb266, 1, none⟩) (Kd.R_far (p := ⟨gb266, 0, none⟩) (Kd.R_types HO250.out BK266.out (by decide)) (fun _ hk => hk.2) (.slice Ao28 t255.length co28)) (fun _ hk => hk.2) (.slice Ao30 t258.length co30)) (fun _ hk => hk.2) (.slice Ao32 t261.length co32)) (fun _ hk => hk.2) (.int .i64 t264)) (fun _ hk => hk.2) (.int .i64 t265)) (fun _ h_ => h_.1))))) (Kd.R_lt (by (with_reducible repeat (first | apply Kd.R_alloc | apply Kd.R_drewN | apply Kd.R_drew)); exact (Kd.R_mono (Kd.R_far (p := ⟨gb266, 4, none⟩) (Kd.R_far (p := ⟨gb266, 3, none⟩) (Kd.R_far (p := ⟨gb266, 2, none⟩) (Kd.R_far (p := ⟨gb266, 1, none⟩) (Kd.R_far (p := ⟨gb266, 0, none⟩) (Kd.R_types HO260.out BK266.out (by decide)) (fun _ hk => hk.2) (.slice Ao28 t255.length co28)) (fun _ hk => hk.2) (.slice Ao30 t258.length co30)) (fun _ hk => hk.2) (.slice Ao32 t261.length co32)) (fun _ hk => hk.2) (.int .i64 t264)) (fun _ hk => hk.2) (.int .i64 t265)) (fun _ h_ => h_.1))))) (Kd.R_lt (by (with_reducible repeat (first | apply Kd.R_alloc | apply Kd.R_drewN | apply Kd.R_drew)); exact (Kd.R_mono (Kd.R_far (p := ⟨gb266, 4, none⟩) (Kd.R_far (p := ⟨gb266, 3, none⟩) (Kd.R_far (p := ⟨gb266, 2, none⟩) (Kd.R_far (p := ⟨gb266, 1, none⟩) (Kd.R_far (p := ⟨gb266, 0, none⟩) (Kd.R_types HO263.out BK266.out (by decide)) (fun _ hk => hk.2) (.slice Ao28 t255.length co28)) (fun _ hk => hk.2) (.slice Ao30 t258.length co30)) (fun _ hk => hk.2) (.slice Ao32 t261.length co32)) (fun _ hk => hk.2) (.int .i64 t264)) (fun _ hk => hk.2) (.int .i64 t265)) (fun _ h_ => h_.1))))) (below_size (be w))); have HO275 := As.mk (Kd.R_lower (Kd.R_new' (Kd.R_new' (Kd.R_new' (Kd.R_new' ho2 (Kd.R_lt (by (with_reducible repeat (first | apply Kd.R_alloc | apply Kd.R_drewN | apply Kd.R_drew)); exact (Kd.R_mono (Kd.R_far (p := ⟨gb266, 4, none⟩) (Kd.R_far (p := ⟨gb266, 3, none⟩) (Kd.R_far (p := ⟨gb266, 2, none⟩) (Kd.R_far (p := ⟨gb266, 1, none⟩) (Kd.R_far (p := ⟨gb266, 0, none⟩) (Kd.R_types HO247.out BK266.out (by decide)) (fun _ hk => hk.2) (.slice Ao28 t255.length co28)) (fun _ hk => hk.2) (.slice Ao30 t258.length co30)) (fun _ hk => hk.2) (.slice Ao32 t261.length co32)) (fun _ hk => hk.2) (.int .i64 t264)) (fun _ hk => hk.2) (.int .i64 t265)) (fun _ h_ => h_.1))))) (Kd.R_lt (by (with_reducible repeat (first | apply Kd.R_alloc | apply Kd.R_drewN | apply Kd.R_drew)); exact (Kd.R_mono (Kd.R_far (p := ⟨gb266, 4, none⟩) (Kd.R_far (p := ⟨gb266, 3, none⟩) (Kd.R_far (p := ⟨gb266, 2, none⟩) (Kd.R_far (p := ⟨gb266, 1, none⟩) (Kd.R_far (p := ⟨gb266, 0, none⟩) (Kd.R_types HO250.out BK266.out (by decide)) (fun _ hk => hk.2) (.slice Ao28 t255.length co28)) (fun _ hk => hk.2) (.slice Ao30 t258.length co30)) (fun _ hk => hk.2) (.slice Ao32 t261.length co32)) (fun _ hk => hk.2) (.int .i64 t264)) (fun _ hk => hk.2) (.int .i64 t265)) (fun _ h_ => h_.1))))) (Kd.R_lt (by (with_reducible repeat (first | apply Kd.R_alloc | apply Kd.R_drewN | apply Kd.R_drew)); exact (Kd.R_mono (Kd.R_far (p := ⟨gb266, 4, none⟩) (Kd.R_far (p := ⟨gb266, 3, none⟩) (Kd.R_far (p := ⟨gb266, 2, none⟩) (Kd.R_far (p := ⟨gb266, 1, none⟩) (Kd.R_far (p := ⟨gb266, 0, none⟩) (Kd.R_types HO260.out BK266.out (by decide)) (fun _ hk => hk.2) (.slice Ao28 t255.length co28)) (fun _ hk => hk.2) (.slice Ao30 t258.length co30)) (fun _ hk => hk.2) (.slice Ao32 t261.length co32)) (fun _ hk => hk.2) (.int .i64 t264)) (fun _ hk => hk.2) (.int .i64 t265)) (fun _ h_ => h_.1))))) (Kd.R_lt (by (with_reducible repeat (first | apply Kd.R_alloc | apply Kd.R_drewN | apply Kd.R_drew)); exact (Kd.R_mono (Kd.R_far (p := ⟨gb266, 4, none⟩) (Kd.R_far (p := ⟨gb266, 3, none⟩) (Kd.R_far (p := ⟨gb266, 2, none⟩) (Kd.R_far (p := ⟨gb266, 1, none⟩) (Kd.R_far (p := ⟨gb266, 0, none⟩) (Kd.R_types HO263.out BK266.out (by decide)) (fun _ hk => hk.2) (.slice Ao28 t255.length co28)) (fun _ hk => hk.2) (.slice Ao30 t258.length co30)) (fun _ hk => hk.2) (.slice Ao32 t261.length co32)) (fun _ hk => hk.2) (.int .i64 t264)) (fun _ hk => hk.2) (.int .i64 t265)) (fun _ h_ => h_.1))))) (below_size (be w))); replace HO247 := As.mk (Kd.R_mono (Kd.R_told (Kd.R_told (Kd.R_old (by (with_reducible repeat (first | apply Kd.R_alloc | apply Kd.R_drewN | apply Kd.R_drew)); exact (Kd.R_mono (Kd.R_far (p := ⟨gb266, 4, none⟩) (Kd.R_far (p := ⟨gb266, 3, none⟩) (Kd.R_far (p := ⟨gb266, 2, none⟩) (Kd.R_far (p := ⟨gb266, 1, none⟩) (Kd.R_far (p := ⟨gb266, 0, none⟩) (Kd.R_types HO247.out BK266.out (by decide)) (fun _ hk => hk.2) (.slice Ao28 t255.length co28)) (fun _ hk => hk.2) (.slice Ao30 t258.length co30)) (fun _ hk => hk.2) (.slice Ao32 t261.length co32)) (fun _ hk => hk.2) (.int .i64 t264)) (fun _ hk => hk.2) (.int .i64 t265)) (fun _ h_ => h_.1))) hb) (Kd.R_base ho1)) (Kd.R_base ho2)) (fun _ h_ => h_.1)); replace HO250 := As.mk (Kd.R_mono (Kd.R_told (Kd.R_told (Kd.R_old (by (with_reducible repeat (first | apply Kd.R_alloc | apply Kd.R_drewN | apply Kd.R_drew)); exact (Kd.R_mono (Kd.R_far (p := ⟨gb266, 4, none⟩) (Kd.R_far (p := ⟨gb266, 3, none⟩) (Kd.R_far (p := ⟨gb266, 2, none⟩) (Kd.R_far (p := ⟨gb266, 1, none⟩) (Kd.R_far (p := ⟨gb266, 0, none⟩) (Kd.R_types HO250.out BK266.out (by decide)) (fun _ hk => hk.2) (.slice Ao28 t255.length co28)) (fun _ hk => hk.2) (.slice Ao30 t258.length co30)) (fun _ hk => hk.2) (.slice Ao32 t261.length co32)) (fun _ hk => hk.2) (.int .i64 t264)) (fun _ hk => hk.2) (.int .i64 t265)) (fun _ h_ => h_.1))) hb) (Kd.R_base ho1)) (Kd.R_base ho2)) (fun _ h_ => h_.1)); replace HO260 := As.mk (Kd.R_mono (Kd.R_told (Kd.R_told (Kd.R_old (by (with_reducible repeat (first | apply Kd.R_alloc | apply Kd.R_drewN | apply Kd.R_drew)); exact (Kd.R_mono (Kd.R_far (p := ⟨gb266, 4, none⟩) (Kd.R_far (p := ⟨gb266, 3, none⟩) (Kd.R_far (p := ⟨gb266, 2, none⟩) (Kd.R_far (p := ⟨gb266, 1, none⟩) (Kd.R_far (p := ⟨gb266, 0, none⟩) (Kd.R_types HO260.out BK266.out (by decide)) (fun _ hk => hk.2) (.slice Ao28 t255.length co28)) (fun _ hk => hk.2) (.slice Ao30 t258.length co30)) (fun _ hk => hk.2) (.slice Ao32 t261.length co32)) (fun _ hk => hk.2) (.int .i64 t264)) (fun _ hk => hk.2) (.int .i64 t265)) (fun _ h_ => h_.1))) hb) (Kd.R_base ho1)) (Kd.R_base ho2)) (fun _ h_ => h_.1)); replace HO263 := As.mk (Kd.R_mono (Kd.R_told (Kd.R_told (Kd.R_old (by (with_reducible repeat (first | apply Kd.R_alloc | apply Kd.R_drewN | apply Kd.R_drew)); exact (Kd.R_mono (Kd.R_far (p := ⟨gb266, 4, none⟩) (Kd.R_far (p := ⟨gb266, 3, none⟩) (Kd.R_far (p := ⟨gb266, 2, none⟩) (Kd.R_far (p := ⟨gb266, 1, none⟩) (Kd.R_far (p := ⟨gb266, 0, none⟩) (Kd.R_types HO263.out BK266.out (by decide)) (fun _ hk => hk.2) (.slice Ao28 t255.length co28)) (fun _ hk => hk.2) (.slice Ao30 t258.length co30)) (fun _ hk => hk.2) (.slice Ao32 t261.length co32)) (fun _ hk => hk.2) (.int .i64 t264)) (fun _ hk => hk.2) (.int .i64 t265)) (fun _ h_ => h_.1))) hb) (Kd.R_base ho1)) (Kd.R_base ho2)) (fun _ h_ => h_.1)); replace BK239 := As.mk (blk_below (g := gb239) (o := .cells #[.slice A0_0 l0_0.length c0_0, .slice A0_1 l0_1.length c0_1, .slice A0_2 l0_2.length c0_2, .int .i64 a0_3, .int .i64 a0_4] 47 (0, 0)) (by refine pl ?_; refine blk_far ?_ NB239_266.out _; refine pl ?_; refine blk_far ?_ NB239_266.out _; refine pl ?_; refine blk_far ?_ NB239_266.out _; refine pl ?_; refine blk_far ?_ NB239_266.out _; refine pl ?_; refine blk_far ?_ NB239_266.out _; exact bx BK239.out) hb); replace BK240 := As.mk (blk_below (g := gb240) (o := .cells #[.int .i64 a1_0, .int .i64 a1_1] 48 (0, 0)) (by refine pl ?_; refine blk_far ?_ NB240_266.out _; refine pl ?_; refine blk_far ?_ NB240_266.out _; refine pl ?_; refine blk_far ?_ NB240_266.out _; refine pl ?_; refine blk_far ?_ NB240_266.out _; refine pl ?_; refine blk_far ?_ NB240_266.out _; exact bx BK240.out) hb); replace BK266 := As.mk (blk_below (g := gb266) (o := .cells #[.slice Ao28 t255.length co28, .slice Ao30 t258.length co30, .slice Ao32 t261.length co32, .int .i64 t264, .int .i64 t265] 34 (0, 0)) (by refine pl ?_; refine blk_put (cs := #[.slice Ao28 t255.length co28, .slice Ao30 t258.length co30, .slice Ao32 t261.length co32, .int .i64 t264, .int .i64 0]) ?_ 4 _ rfl; refine pl ?_; refine blk_put (cs := #[.slice Ao28 t255.length co28, .slice Ao30 t258.length co30, .slice Ao32 t261.length co32, .int .i64 0, .int .i64 0]) ?_ 3 _ rfl; refine pl ?_; refine blk_put (cs := #[.slice Ao28 t255.length co28, .slice Ao30 t258.length co30, .slice none 0 0, .int .i64 0, .int .i64 0]) ?_ 2 _ rfl; refine pl ?_; refine blk_put (cs := #[.slice Ao28 t255.length co28, .slice none 0 0, .slice none 0 0, .int .i64 0, .int .i64 0]) ?_ 1 _ rfl; refine pl ?_; refine blk_put (cs := #[.slice none 0 0, .slice none 0 0, .slice none 0 0, .int .i64 0, .int .i64 0]) ?_ 0 _ rfl; exact bx BK266.out) hb); replace HB := As.mk (below_step (be w) hb); (try clear hb); (try clear hb2); (try clear hk); (try clear hi); (try clear ho0); (try clear ho1); (try clear ho2)) | ((with_reducible refine gate_dst (N := 7) rfl ?_); refine box_event ?hg (N := 7) ?hd (cs := #[.slice none 0 0, .slice none 0 0, .slice none 0 0, .int .i64 0, .int .i64 0]) (t := 34) ?hr ?_; (case hd => rfl); (case hg => rfl); (case hr => first | (go_simp; done) | (go_simp; rfl)); intro gb278 hg w40 hbox hb; replace HO244 := As.mk (Kd.R_below (by (with_reducible repeat (first | apply Kd.R_alloc | apply Kd.R_drewN | apply Kd.R_drew)); exact HO244.out) hb); replace HO247 := As.mk (Kd.R_below (by (with_reducible repeat (first | apply Kd.R_alloc | apply Kd.R_drewN | apply Kd.R_drew)); exact HO247.out) hb); replace HO250 := As.mk (Kd.R_below (by (with_reducible repeat (first | apply Kd.R_alloc | apply Kd.R_drewN | apply Kd.R_drew)); exact HO250.out) hb); replace HO257 := As.mk (Kd.R_below (by (with_reducible repeat (first | apply Kd.R_alloc | apply Kd.R_drewN | apply Kd.R_drew)); exact HO257.out) hb); replace HO260 := As.mk (Kd.R_below (by (with_reducible repeat (first | apply Kd.R_alloc | apply Kd.R_drewN | apply Kd.R_drew)); exact HO260.out) hb); replace HO263 := As.mk (Kd.R_below (by (with_reducible repeat (first | apply Kd.R_alloc | apply Kd.R_drewN | apply Kd.R_drew)); exact HO263.out) hb); replace HO269 := As.mk (Kd.R_below (by (with_reducible repeat (first | apply Kd.R_alloc | apply Kd.R_drewN | apply Kd.R_drew)); exact HO269.out) hb); replace HO272 := As.mk (Kd.R_below (by (with_reducible repeat (first | apply Kd.R_alloc | apply Kd.R_drewN | apply Kd.R_drew)); exact HO272.out) hb); replace HO275 := As.mk (Kd.R_below (by (with_reducible repeat (first | apply Kd.R_alloc | apply Kd.R_drewN | apply Kd.R_drew)); exact HO275.out) hb); have BK278 := As.mk (hbox); have GW278 := As.mk (gs w hg); have GE278 := As.mk (gs w hg); replace HB := As.mk (below_step (be w) hb); have NB239_278 := As.mk (nl hg (bx BK239.out)); have NB278_239 := As.mk (ng hg (bx BK239.out)); replace BK239 := As.mk (blk_below (bx BK239.out) hb); have NB240_278 := As.mk (nl hg (bx BK240.out)); have NB278_240 := As.mk (ng hg (bx BK240.out)); replace BK240 := As.mk (blk_below (bx BK240.out) hb); have NB266_278 := As.mk (nl hg (bx BK266.out)); have NB278_266 := As.mk (ng hg (bx BK266.out)); replace BK266 := As.mk (blk_below (bx BK266.out) hb); clear hb hbox hg; obtain ⟨Ao41, co41, eo41⟩ := Kd.R_slice HO269.out; subst eo41; have hnb42 := NB278_239.out; have hnc42 := NB239_278.out; have hnb43 := NB278_240.out; have hnc43 := NB240_278.out; have hnb44 := NB278_266.out; have hnc44 := NB266_278.out; obtain ⟨hcz45_0, hcz45_1, hcz45_2, hcz45_3, hcz45_4, hfz45_0, hfz45_1, hfz45_2, hfz45_3, hfz45_4⟩ := cl5 BK278.out; obtain ⟨Ao46, co46, eo46⟩ := Kd.R_slice HO272.out; subst eo46; obtain ⟨Ao47, co47, eo47⟩ := Kd.R_slice HO275.out; subst eo47))
   have n0_ : As (Kd.R k93 93 (((((w40.setCell ⟨gb278, 0, none⟩ (.slice Ao41 t267.length co41)).setCell ⟨gb278, 1, none⟩ (.slice Ao46 t270.length co46)).setCell ⟨gb278, 2, none⟩ (.slice Ao47 t273.length co47)).setCell ⟨gb278, 3, none⟩ (.int .i64 t276)).setCell ⟨gb278, 4, none⟩ (.int .i64 t277)) w.heap.size (fun k_ => some k_ ≠ (.slice Ao28 t255.length co28 : Value).ownBlock ∧ some k_ ≠ (.slice Ao41 t267.length co41 : Value).ownBlock) v243 t242) := ⟨by (with_reducible repeat (first | apply Kd.R_alloc | apply Kd.R_drewN | apply Kd.R_drew)); exact Kd.R_mono (Kd.R_far (p := ⟨gb278, 4, none⟩) (Kd.R_far (p := ⟨gb278, 3, none⟩) (Kd.R_far (p := ⟨gb278, 2, none⟩) (Kd.R_far (p := ⟨gb278, 1, none⟩) (Kd.R_far (p := ⟨gb278, 0, none⟩) (Kd.R_types HO244.out BK278.out (by decide)) (fun _ hk => hk.2) (.slice Ao41 t267.length co41)) (fun _ hk => hk.2) (.slice Ao46 t270.length co46)) (fun _ hk => hk.2) (.slice Ao47 t273.length co47)) (fun _ hk => hk.2) (.int .i64 t276)) (fun _ hk => hk.2) (.int .i64 t277)) (fun _ hk => ⟨hk.1.1, hk.1.2⟩)⟩
   have n1_ : As (Kd.R (Kd.int .i64) 3 (((((w40.setCell ⟨gb278, 0, none⟩ (.slice Ao41 t267.length co41)).setCell ⟨gb278, 1, none⟩ (.slice Ao46 t270.length co46)).setCell ⟨gb278, 2, none⟩ (.slice Ao47 t273.length co47)).setCell ⟨gb278, 3, none⟩ (.int .i64 t276)).setCell ⟨gb278, 4, none⟩ (.int .i64 t277)) w.heap.size (fun k_ => some k_ ≠ (v249 : Value).ownBlock ∧ some k_ ≠ (.slice Ao30 t258.length co30 : Value).ownBlock ∧ some k_ ≠ (.slice Ao32 t261.length co32 : Value).ownBlock ∧ some k_ ≠ (.slice Ao46 t270.length co46 : Value).ownBlock ∧ some k_ ≠ (.slice Ao47 t273.length co47 : Value).ownBlock) v246 t245) := ⟨by (with_reducible repeat (first | apply Kd.R_alloc | apply Kd.R_drewN | apply Kd.R_drew)); exact Kd.R_mono (Kd.R_far (p := ⟨gb278, 4, none⟩) (Kd.R_far (p := ⟨gb278, 3, none⟩) (Kd.R_far (p := ⟨gb278, 2, none⟩) (Kd.R_far (p := ⟨gb278, 1, none⟩) (Kd.R_far (p := ⟨gb278, 0, none⟩) (Kd.R_types HO247.out BK278.out (by decide)) (fun _ hk => hk.2) (.slice Ao41 t267.length co41)) (fun _ hk => hk.2) (.slice Ao46 t270.length co46)) (fun _ hk => hk.2) (.slice Ao47 t273.length co47)) (fun _ hk => hk.2) (.int .i64 t276)) (fun _ hk => hk.2) (.int .i64 t277)) (fun _ hk => ⟨hk.1.1.1.1, ⟨hk.1.1.1.2.1, ⟨hk.1.1.1.2.2, ⟨hk.1.1.2, hk.1.2⟩⟩⟩⟩)⟩
   have n2_ : As (Kd.R (Kd.int .i64) 3 (((((w40.setCell ⟨gb278, 0, none⟩ (.slice Ao41 t267.length co41)).setCell ⟨gb278, 1, none⟩ (.slice Ao46 t270.length co46)).setCell ⟨gb278, 2, none⟩ (.slice Ao47 t273.length co47)).setCell ⟨gb278, 3, none⟩ (.int .i64 t276)).setCell ⟨gb278, 4, none⟩ (.int .i64 t277)) w.heap.size (fun k_ => some k_ ≠ (v246 : Value).ownBlock ∧ some k_ ≠ (.slice Ao30 t258.length co30 : Value).ownBlock ∧ some k_ ≠ (.slice Ao32 t261.length co32 : Value).ownBlock ∧ some k_ ≠ (.slice Ao46 t270.length co46 : Value).ownBlock ∧ some k_ ≠ (.slice Ao47 t273.length co47 : Value).ownBlock) v249 t248) := ⟨by (with_reducible repeat (first | apply Kd.R_alloc | apply Kd.R_drewN | apply Kd.R_drew)); exact Kd.R_mono (Kd.R_far (p := ⟨gb278, 4, none⟩) (Kd.R_far (p := ⟨gb278, 3, none⟩) (Kd.R_far (p := ⟨gb278, 2, none⟩) (Kd.R_far (p := ⟨gb278, 1, none⟩) (Kd.R_far (p := ⟨gb278, 0, none⟩) (Kd.R_types HO250.out BK278.out (by decide)) (fun _ hk => hk.2) (.slice Ao41 t267.length co41)) (fun _ hk => hk.2) (.slice Ao46 t270.length co46)) (fun _ hk => hk.2) (.slice Ao47 t273.length co47)) (fun _ hk => hk.2) (.int .i64 t276)) (fun _ hk => hk.2) (.int .i64 t277)) (fun _ hk => ⟨hk.1.1.1.1, ⟨hk.1.1.1.2.1, ⟨hk.1.1.1.2.2, ⟨hk.1.1.2, hk.1.2⟩⟩⟩⟩)⟩
   have n3_ : As (Kd.R k93 93 (((((w40.setCell ⟨gb278, 0, none⟩ (.slice Ao41 t267.length co41)).setCell ⟨gb278, 1, none⟩ (.slice Ao46 t270.length co46)).setCell ⟨gb278, 2, none⟩ (.slice Ao47 t273.length co47)).setCell ⟨gb278, 3, none⟩ (.int .i64 t276)).setCell ⟨gb278, 4, none⟩ (.int .i64 t277)) w.heap.size (fun k_ => some k_ ≠ (v243 : Value).ownBlock ∧ some k_ ≠ (.slice Ao41 t267.length co41 : Value).ownBlock) (.slice Ao28 t255.length co28) t255) := ⟨by (with_reducible repeat (first | apply Kd.R_alloc | apply Kd.R_drewN | apply Kd.R_drew)); exact Kd.R_mono (Kd.R_far (p := ⟨gb278, 4, none⟩) (Kd.R_far (p := ⟨gb278, 3, none⟩) (Kd.R_far (p := ⟨gb278, 2, none⟩) (Kd.R_far (p := ⟨gb278, 1, none⟩) (Kd.R_far (p := ⟨gb278, 0, none⟩) (Kd.R_types HO257.out BK278.out (by decide)) (fun _ hk => hk.2) (.slice Ao41 t267.length co41)) (fun _ hk => hk.2) (.slice Ao46 t270.length co46)) (fun _ hk => hk.2) (.slice Ao47 t273.length co47)) (fun _ hk => hk.2) (.int .i64 t276)) (fun _ hk => hk.2) (.int .i64 t277)) (fun _ hk => ⟨hk.1.1, hk.1.2⟩)⟩
   have n4_ : As (Kd.R (Kd.int .i64) 3 (((((w40.setCell ⟨gb278, 0, none⟩ (.slice Ao41 t267.length co41)).setCell ⟨gb278, 1, none⟩ (.slice Ao46 t270.length co46)).setCell ⟨gb278, 2, none⟩ (.slice Ao47 t273.length co47)).setCell ⟨gb278, 3, none⟩ (.int .i64 t276)).setCell ⟨gb278, 4, none⟩ (.int .i64 t277)) w.heap.size (fun k_ => some k_ ≠ (v246 : Value).ownBlock ∧ some k_ ≠ (v249 : Value).ownBlock ∧ some k_ ≠ (.slice Ao32 t261.length co32 : Value).ownBlock ∧ some k_ ≠ (.slice Ao46 t270.length co46 : Value).ownBlock ∧ some k_ ≠ (.slice Ao47 t273.length co47 : Value).ownBlock) (.slice Ao30 t258.length co30) t258) := ⟨by (with_reducible repeat (first | apply Kd.R_alloc | apply Kd.R_drewN | apply Kd.R_drew)); exact Kd.R_mono (Kd.R_far (p := ⟨gb278, 4, none⟩) (Kd.R_far (p := ⟨gb278, 3, none⟩) (Kd.R_far (p := ⟨gb278, 2, none⟩) (Kd.R_far (p := ⟨gb278, 1, none⟩) (Kd.R_far (p := ⟨gb278, 0, none⟩) (Kd.R_types HO260.out BK278.out (by decide)) (fun _ hk => hk.2) (.slice Ao41 t267.length co41)) (fun _ hk => hk.2) (.slice Ao46 t270.length co46)) (fun _ hk => hk.2) (.slice Ao47 t273.length co47)) (fun _ hk => hk.2) (.int .i64 t276)) (fun _ hk => hk.2) (.int .i64 t277)) (fun _ hk => ⟨hk.1.1.1.1, ⟨hk.1.1.1.2.1, ⟨hk.1.1.1.2.2, ⟨hk.1.1.2, hk.1.2⟩⟩⟩⟩)⟩
   have n5_ : As (Kd.R (Kd.int .i64) 3 (((((w40.setCell ⟨gb278, 0, none⟩ (.slice Ao41 t267.length co41)).setCell ⟨gb278, 1, none⟩ (.slice Ao46 t270.length co46)).setCell ⟨gb278, 2, none⟩ (.slice Ao47 t273.length co47)).setCell ⟨gb278, 3, none⟩ (.int .i64 t276)).setCell ⟨gb278, 4, none⟩ (.int .i64 t277)) w.heap.size (fun k_ => some k_ ≠ (v246 : Value).ownBlock ∧ some k_ ≠ (v249 : Value).ownBlock ∧ some k_ ≠ (.slice Ao30 t258.length co30 : Value).ownBlock ∧ some k_ ≠ (.slice Ao46 t270.length co46 : Value).ownBlock ∧ some k_ ≠ (.slice Ao47 t273.length co47 : Value).ownBlock) (.slice Ao32 t261.length co32) t261) := ⟨by (with_reducible repeat (first | apply Kd.R_alloc | apply Kd.R_drewN | apply Kd.R_drew)); exact Kd.R_mono (Kd.R_far (p := ⟨gb278, 4, none⟩) (Kd.R_far (p := ⟨gb278, 3, none⟩) (Kd.R_far (p := ⟨gb278, 2, none⟩) (Kd.R_far (p := ⟨gb278, 1, none⟩) (Kd.R_far (p := ⟨gb278, 0, none⟩) (Kd.R_types HO263.out BK278.out (by decide)) (fun _ hk => hk.2) (.slice Ao41 t267.length co41)) (fun _ hk => hk.2) (.slice Ao46 t270.length co46)) (fun _ hk => hk.2) (.slice Ao47 t273.length co47)) (fun _ hk => hk.2) (.int .i64 t276)) (fun _ hk => hk.2) (.int .i64 t277)) (fun _ hk => ⟨hk.1.1.1.1, ⟨hk.1.1.1.2.1, ⟨hk.1.1.1.2.2, ⟨hk.1.1.2, hk.1.2⟩⟩⟩⟩)⟩
   have n6_ : As (Kd.R k93 93 (((((w40.setCell ⟨gb278, 0, none⟩ (.slice Ao41 t267.length co41)).setCell ⟨gb278, 1, none⟩ (.slice Ao46 t270.length co46)).setCell ⟨gb278, 2, none⟩ (.slice Ao47 t273.length co47)).setCell ⟨gb278, 3, none⟩ (.int .i64 t276)).setCell ⟨gb278, 4, none⟩ (.int .i64 t277)) w.heap.size (fun k_ => some k_ ≠ (v243 : Value).ownBlock ∧ some k_ ≠ (.slice Ao28 t255.length co28 : Value).ownBlock) (.slice Ao41 t267.length co41) t267) := ⟨by (with_reducible repeat (first | apply Kd.R_alloc | apply Kd.R_drewN | apply Kd.R_drew)); exact Kd.R_mono (Kd.R_far (p := ⟨gb278, 4, none⟩) (Kd.R_far (p := ⟨gb278, 3, none⟩) (Kd.R_far (p := ⟨gb278, 2, none⟩) (Kd.R_far (p := ⟨gb278, 1, none⟩) (Kd.R_far (p := ⟨gb278, 0, none⟩) (Kd.R_types HO269.out BK278.out (by decide)) (fun _ hk => hk.2) (.slice Ao41 t267.length co41)) (fun _ hk => hk.2) (.slice Ao46 t270.length co46)) (fun _ hk => hk.2) (.slice Ao47 t273.length co47)) (fun _ hk => hk.2) (.int .i64 t276)) (fun _ hk => hk.2) (.int .i64 t277)) (fun _ hk => ⟨hk.1.1.2, hk.1.2⟩)⟩
   have n7_ : As (Kd.R (Kd.int .i64) 3 (((((w40.setCell ⟨gb278, 0, none⟩ (.slice Ao41 t267.length co41)).setCell ⟨gb278, 1, none⟩ (.slice Ao46 t270.length co46)).setCell ⟨gb278, 2, none⟩ (.slice Ao47 t273.length co47)).setCell ⟨gb278, 3, none⟩ (.int .i64 t276)).setCell ⟨gb278, 4, none⟩ (.int .i64 t277)) w.heap.size (fun k_ => some k_ ≠ (v246 : Value).ownBlock ∧ some k_ ≠ (v249 : Value).ownBlock ∧ some k_ ≠ (.slice Ao30 t258.length co30 : Value).ownBlock ∧ some k_ ≠ (.slice Ao32 t261.length co32 : Value).ownBlock ∧ some k_ ≠ (.slice Ao47 t273.length co47 : Value).ownBlock) (.slice Ao46 t270.length co46) t270) := ⟨by (with_reducible repeat (first | apply Kd.R_alloc | apply Kd.R_drewN | apply Kd.R_drew)); exact Kd.R_mono (Kd.R_far (p := ⟨gb278, 4, none⟩) (Kd.R_far (p := ⟨gb278, 3, none⟩) (Kd.R_far (p := ⟨gb278, 2, none⟩) (Kd.R_far (p := ⟨gb278, 1, none⟩) (Kd.R_far (p := ⟨gb278, 0, none⟩) (Kd.R_types HO272.out BK278.out (by decide)) (fun _ hk => hk.2) (.slice Ao41 t267.length co41)) (fun _ hk => hk.2) (.slice Ao46 t270.length co46)) (fun _ hk => hk.2) (.slice Ao47 t273.length co47)) (fun _ hk => hk.2) (.int .i64 t276)) (fun _ hk => hk.2) (.int .i64 t277)) (fun _ hk => ⟨hk.1.1.1.1.2, ⟨hk.1.1.1.2, ⟨hk.1.1.2, ⟨hk.1.2, hk.1.1.1.1.1⟩⟩⟩⟩)⟩
   have n8_ : As (Kd.R (Kd.int .i64) 3 (((((w40.setCell ⟨gb278, 0, none⟩ (.slice Ao41 t267.length co41)).setCell ⟨gb278, 1, none⟩ (.slice Ao46 t270.length co46)).setCell ⟨gb278, 2, none⟩ (.slice Ao47 t273.length co47)).setCell ⟨gb278, 3, none⟩ (.int .i64 t276)).setCell ⟨gb278, 4, none⟩ (.int .i64 t277)) w.heap.size (fun k_ => some k_ ≠ (v246 : Value).ownBlock ∧ some k_ ≠ (v249 : Value).ownBlock ∧ some k_ ≠ (.slice Ao30 t258.length co30 : Value).ownBlock ∧ some k_ ≠ (.slice Ao32 t261.length co32 : Value).ownBlock ∧ some k_ ≠ (.slice Ao46 t270.length co46 : Value).ownBlock) (.slice Ao47 t273.length co47) t273) := ⟨by (with_reducible repeat (first | apply Kd.R_alloc | apply Kd.R_drewN | apply Kd.R_drew)); exact Kd.R_mono (Kd.R_far (p := ⟨gb278, 4, none⟩) (Kd.R_far (p := ⟨gb278, 3, none⟩) (Kd.R_far (p := ⟨gb278, 2, none⟩) (Kd.R_far (p := ⟨gb278, 1, none⟩) (Kd.R_far (p := ⟨gb278, 0, none⟩) (Kd.R_types HO275.out BK278.out (by decide)) (fun _ hk => hk.2) (.slice Ao41 t267.length co41)) (fun _ hk => hk.2) (.slice Ao46 t270.length co46)) (fun _ hk => hk.2) (.slice Ao47 t273.length co47)) (fun _ hk => hk.2) (.int .i64 t276)) (fun _ hk => hk.2) (.int .i64 t277)) (fun _ hk => ⟨hk.1.1.1.1.2, ⟨hk.1.1.1.2, ⟨hk.1.1.2, ⟨hk.1.2, hk.1.1.1.1.1⟩⟩⟩⟩)⟩
   have n9_ : As ((((((w40.setCell ⟨gb278, 0, none⟩ (.slice Ao41 t267.length co41)).setCell ⟨gb278, 1, none⟩ (.slice Ao46 t270.length co46)).setCell ⟨gb278, 2, none⟩ (.slice Ao47 t273.length co47)).setCell ⟨gb278, 3, none⟩ (.int .i64 t276)).setCell ⟨gb278, 4, none⟩ (.int .i64 t277)).heap[gb239]? = some (.cells #[.slice A0_0 l0_0.length c0_0, .slice A0_1 l0_1.length c0_1, .slice A0_2 l0_2.length c0_2, .int .i64 a0_3, .int .i64 a0_4] 47 (0, 0))) := ⟨by refine pl ?_; refine blk_far ?_ NB239_278.out _; refine pl ?_; refine blk_far ?_ NB239_278.out _; refine pl ?_; refine blk_far ?_ NB239_278.out _; refine pl ?_; refine blk_far ?_ NB239_278.out _; refine pl ?_; refine blk_far ?_ NB239_278.out _; exact bx BK239.out⟩
   have n10_ : As ((((((w40.setCell ⟨gb278, 0, none⟩ (.slice Ao41 t267.length co41)).setCell ⟨gb278, 1, none⟩ (.slice Ao46 t270.length co46)).setCell ⟨gb278, 2, none⟩ (.slice Ao47 t273.length co47)).setCell ⟨gb278, 3, none⟩ (.int .i64 t276)).setCell ⟨gb278, 4, none⟩ (.int .i64 t277)).heap[gb240]? = some (.cells #[.int .i64 a1_0, .int .i64 a1_1] 48 (0, 0))) := ⟨by refine pl ?_; refine blk_far ?_ NB240_278.out _; refine pl ?_; refine blk_far ?_ NB240_278.out _; refine pl ?_; refine blk_far ?_ NB240_278.out _; refine pl ?_; refine blk_far ?_ NB240_278.out _; refine pl ?_; refine blk_far ?_ NB240_278.out _; exact bx BK240.out⟩
   have n11_ : As ((((((w40.setCell ⟨gb278, 0, none⟩ (.slice Ao41 t267.length co41)).setCell ⟨gb278, 1, none⟩ (.slice Ao46 t270.length co46)).setCell ⟨gb278, 2, none⟩ (.slice Ao47 t273.length co47)).setCell ⟨gb278, 3, none⟩ (.int .i64 t276)).setCell ⟨gb278, 4, none⟩ (.int .i64 t277)).heap[gb266]? = some (.cells #[.slice Ao28 t255.length co28, .slice Ao30 t258.length co30, .slice Ao32 t261.length co32, .int .i64 t264, .int .i64 t265] 34 (0, 0))) := ⟨by refine pl ?_; refine blk_far ?_ NB266_278.out _; refine pl ?_; refine blk_far ?_ NB266_278.out _; refine pl ?_; refine blk_far ?_ NB266_278.out _; refine pl ?_; refine blk_far ?_ NB266_278.out _; refine pl ?_; refine blk_far ?_ NB266_278.out _; exact bx BK266.out⟩
   have n12_ : As ((((((w40.setCell ⟨gb278, 0, none⟩ (.slice Ao41 t267.length co41)).setCell ⟨gb278, 1, none⟩ (.slice Ao46 t270.length co46)).setCell ⟨gb278, 2, none⟩ (.slice Ao47 t273.length co47)).setCell ⟨gb278, 3, none⟩ (.int .i64 t276)).setCell ⟨gb278, 4, none⟩ (.int .i64 t277)).heap[gb278]? = some (.cells #[.slice Ao41 t267.length co41, .slice Ao46 t270.length co46, .slice Ao47 t273.length co47, .int .i64 t276, .int .i64 t277] 34 (0, 0))) := ⟨by refine pl ?_; refine blk_put (cs := #[.slice Ao41 t267.length co41, .slice Ao46 t270.length co46, .slice Ao47 t273.length co47, .int .i64 t276, .int .i64 0]) ?_ 4 _ rfl; refine pl ?_; refine blk_put (cs := #[.slice Ao41 t267.length co41, .slice Ao46 t270.length co46, .slice Ao47 t273.length co47, .int .i64 0, .int .i64 0]) ?_ 3 _ rfl; refine pl ?_; refine blk_put (cs := #[.slice Ao41 t267.length co41, .slice Ao46 t270.length co46, .slice none 0 0, .int .i64 0, .int .i64 0]) ?_ 2 _ rfl; refine pl ?_; refine blk_put (cs := #[.slice Ao41 t267.length co41, .slice none 0 0, .slice none 0 0, .int .i64 0, .int .i64 0]) ?_ 1 _ rfl; refine pl ?_; refine blk_put (cs := #[.slice none 0 0, .slice none 0 0, .slice none 0 0, .int .i64 0, .int .i64 0]) ?_ 0 _ rfl; exact bx BK278.out⟩
   have n13_ : As (Below w.heap.size w (((((w40.setCell ⟨gb278, 0, none⟩ (.slice Ao41 t267.length co41)).setCell ⟨gb278, 1, none⟩ (.slice Ao46 t270.length co46)).setCell ⟨gb278, 2, none⟩ (.slice Ao47 t273.length co47)).setCell ⟨gb278, 3, none⟩ (.int .i64 t276)).setCell ⟨gb278, 4, none⟩ (.int .i64 t277))) := ⟨be w⟩
   (try clear HO244)
   (try clear HO247)
   (try clear HO250)
   (try clear HO257)
   (try clear HO260)
   (try clear HO263)
   (try clear HO269)
   (try clear HO272)
   (try clear HO275)
   (try clear BK239)
   (try clear BK240)
   (try clear BK266)
   (try clear BK278)
   (try clear HB)
   generalize (((((w40.setCell ⟨gb278, 0, none⟩ (.slice Ao41 t267.length co41)).setCell ⟨gb278, 1, none⟩ (.slice Ao46 t270.length co46)).setCell ⟨gb278, 2, none⟩ (.slice Ao47 t273.length co47)).setCell ⟨gb278, 3, none⟩ (.int .i64 t276)).setCell ⟨gb278, 4, none⟩ (.int .i64 t277)) = w48 at n0_ n1_ n2_ n3_ n4_ n5_ n6_ n7_ n8_ n9_ n10_ n11_ n12_ n13_ ⊢
   have HO244 := n0_
   have HO247 := n1_
   have HO250 := n2_
   have HO257 := n3_
   have HO260 := n4_
   have HO263 := n5_
   have HO269 := n6_
   have HO272 := n7_
   have HO275 := n8_
   have BK239 := n9_
   have BK240 := n10_
   have BK266 := n11_
   have BK278 := n12_
   have HB := n13_
   clear n0_ n1_ n2_ n3_ n4_ n5_ n6_ n7_ n8_ n9_ n10_ n11_ n12_ n13_
   replace HO244 := As.mk (Kd.R_drew HO244.out)
   replace HO247 := As.mk (Kd.R_drew HO247.out)
   replace HO250 := As.mk (Kd.R_drew HO250.out)
   replace HO257 := As.mk (Kd.R_drew HO257.out)
   replace HO260 := As.mk (Kd.R_drew HO260.out)
   replace HO263 := As.mk (Kd.R_drew HO263.out)
   replace HO269 := As.mk (Kd.R_drew HO269.out)
   replace HO272 := As.mk (Kd.R_drew HO272.out)
   replace HO275 := As.mk (Kd.R_drew HO275.out)
   replace BK239 := As.mk (blk_drew BK239.out)
   replace BK240 := As.mk (blk_drew BK240.out)
   replace BK266 := As.mk (blk_drew BK266.out)
   replace BK278 := As.mk (blk_drew BK278.out)
   replace HB := As.mk (below_drew1 HB.out)
   refine start_ (n := 6) (S := fun w' => w'.cell? ⟨gb278, 0, none⟩ = some (.slice Ao41 t267.length co41) ∧ w'.cell? ⟨gb278, 1, none⟩ = some (.slice Ao46 t270.length co46) ∧ w'.cell? ⟨gb278, 2, none⟩ = some (.slice Ao47 t273.length co47) ∧ w'.cell? ⟨gb278, 3, none⟩ = some (.int .i64 t276) ∧ w'.cell? ⟨gb278, 4, none⟩ = some (.int .i64 t277) ∧ w'.cell? ⟨gb240, 0, none⟩ = some (.int .i64 a1_0) ∧ w'.cell? ⟨gb240, 1, none⟩ = some (.int .i64 a1_1)) (ds := []) #[O, O, O, O, O, O] (by kernel_rfl) rfl rfl ⟨(blk_cell BK278.out 0).trans rfl, (blk_cell BK278.out 1).trans rfl, (blk_cell BK278.out 2).trans rfl, (blk_cell BK278.out 3).trans rfl, (blk_cell BK278.out 4).trans rfl, (blk_cell BK240.out 0).trans rfl, (blk_cell BK240.out 1).trans rfl⟩ (fun hHeld => ?_)
   generalize w48.drew = w49 at HO244 HO247 HO250 HO257 HO260 HO263 HO269 HO272 HO275 BK239 BK240 BK266 BK278 HB hHeld ⊢
   refine take_ (i := 0) (N := some 25) (v := ?_) (a' := ?_) #[I, O, O, O, O, O] rfl rfl (by kernel_rfl) (fun _ _ _ h => h) (Or.inl ⟨by rfl, ?_⟩) hHeld ?_ ?_
   rotate_left
   ·
    rintro w' ⟨s0, s1, s2, s3, s4, s5, s6⟩
    go_simp
    with_reducible rfl
   rotate_left
   ·
    simp only [pk, i64_w, i32_w]
    rfl
   refine take_ (i := 1) (N := some 26) (v := ?_) (a' := ?_) #[I, I, O, O, O, O] rfl rfl (by kernel_rfl) (fun _ _ _ h => h) (Or.inl ⟨by rfl, ?_⟩) hHeld ?_ ?_
   rotate_left
   ·
    rintro w' ⟨s0, s1, s2, s3, s4, s5, s6⟩
    go_simp
    with_reducible rfl
   rotate_left
   ·
    simp only [pk, i64_w, i32_w]
    rfl
   refine join_ (σ := Value × Value × Value × Nat) 1 #[true, true, true, true, true, false] (fun s_ => [(27, .agg #[.int .i64 t279, .int .i64 t280]), (28, .agg #[s_.1, s_.2.1, s_.2.2.1, .int .i64 t290, .int .i64 t291]), (8, .pointer (some ⟨s_.2.2.2, 0, none⟩))]) (fun s_ w' => (w'.cell? ⟨gb278, 0, none⟩ = some (.slice Ao41 t267.length co41) ∧ w'.cell? ⟨gb278, 1, none⟩ = some (.slice Ao46 t270.length co46) ∧ w'.cell? ⟨gb278, 2, none⟩ = some (.slice Ao47 t273.length co47) ∧ w'.cell? ⟨gb278, 3, none⟩ = some (.int .i64 t276) ∧ w'.cell? ⟨gb278, 4, none⟩ = some (.int .i64 t277) ∧ w'.cell? ⟨gb240, 0, none⟩ = some (.int .i64 a1_0) ∧ w'.cell? ⟨gb240, 1, none⟩ = some (.int .i64 a1_1)) ∧ (Kd.R k93 93 w' w.heap.size (fun k_ => some k_ ≠ (.slice Ao28 t255.length co28 : Value).ownBlock ∧ some k_ ≠ (.slice Ao41 t267.length co41 : Value).ownBlock ∧ some k_ ≠ (s_.1 : Value).ownBlock) v243 t242) ∧ (Kd.R (Kd.int .i64) 3 w' w.heap.size (fun k_ => some k_ ≠ (v249 : Value).ownBlock ∧ some k_ ≠ (.slice Ao30 t258.length co30 : Value).ownBlock ∧ some k_ ≠ (.slice Ao32 t261.length co32 : Value).ownBlock ∧ some k_ ≠ (.slice Ao46 t270.length co46 : Value).ownBlock ∧ some k_ ≠ (.slice Ao47 t273.length co47 : Value).ownBlock ∧ some k_ ≠ (s_.2.1 : Value).ownBlock ∧ some k_ ≠ (s_.2.2.1 : Value).ownBlock) v246 t245) ∧ (Kd.R (Kd.int .i64) 3 w' w.heap.size (fun k_ => some k_ ≠ (v246 : Value).ownBlock ∧ some k_ ≠ (.slice Ao30 t258.length co30 : Value).ownBlock ∧ some k_ ≠ (.slice Ao32 t261.length co32 : Value).ownBlock ∧ some k_ ≠ (.slice Ao46 t270.length co46 : Value).ownBlock ∧ some k_ ≠ (.slice Ao47 t273.length co47 : Value).ownBlock ∧ some k_ ≠ (s_.2.1 : Value).ownBlock ∧ some k_ ≠ (s_.2.2.1 : Value).ownBlock) v249 t248) ∧ (Kd.R k93 93 w' w.heap.size (fun k_ => some k_ ≠ (v243 : Value).ownBlock ∧ some k_ ≠ (.slice Ao41 t267.length co41 : Value).ownBlock ∧ some k_ ≠ (s_.1 : Value).ownBlock) (.slice Ao28 t255.length co28) t255) ∧ (Kd.R (Kd.int .i64) 3 w' w.heap.size (fun k_ => some k_ ≠ (v246 : Value).ownBlock ∧ some k_ ≠ (v249 : Value).ownBlock ∧ some k_ ≠ (.slice Ao32 t261.length co32 : Value).ownBlock ∧ some k_ ≠ (.slice Ao46 t270.length co46 : Value).ownBlock ∧ some k_ ≠ (.slice Ao47 t273.length co47 : Value).ownBlock ∧ some k_ ≠ (s_.2.1 : Value).ownBlock ∧ some k_ ≠ (s_.2.2.1 : Value).ownBlock) (.slice Ao30 t258.length co30) t258) ∧ (Kd.R (Kd.int .i64) 3 w' w.heap.size (fun k_ => some k_ ≠ (v246 : Value).ownBlock ∧ some k_ ≠ (v249 : Value).ownBlock ∧ some k_ ≠ (.slice Ao30 t258.length co30 : Value).ownBlock ∧ some k_ ≠ (.slice Ao46 t270.length co46 : Value).ownBlock ∧ some k_ ≠ (.slice Ao47 t273.length co47 : Value).ownBlock ∧ some k_ ≠ (s_.2.1 : Value).ownBlock ∧ some k_ ≠ (s_.2.2.1 : Value).ownBlock) (.slice Ao32 t261.length co32) t261) ∧ (Kd.R k93 93 w' w.heap.size (fun k_ => some k_ ≠ (v243 : Value).ownBlock ∧ some k_ ≠ (.slice Ao28 t255.length co28 : Value).ownBlock ∧ some k_ ≠ (s_.1 : Value).ownBlock) (.slice Ao41 t267.length co41) t267) ∧ (Kd.R (Kd.int .i64) 3 w' w.heap.size (fun k_ => some k_ ≠ (v246 : Value).ownBlock ∧ some k_ ≠ (v249 : Value).ownBlock ∧ some k_ ≠ (.slice Ao30 t258.length co30 : Value).ownBlock ∧ some k_ ≠ (.slice Ao32 t261.length co32 : Value).ownBlock ∧ some k_ ≠ (.slice Ao47 t273.length co47 : Value).ownBlock ∧ some k_ ≠ (s_.2.1 : Value).ownBlock ∧ some k_ ≠ (s_.2.2.1 : Value).ownBlock) (.slice Ao46 t270.length co46) t270) ∧ (Kd.R (Kd.int .i64) 3 w' w.heap.size (fun k_ => some k_ ≠ (v246 : Value).ownBlock ∧ some k_ ≠ (v249 : Value).ownBlock ∧ some k_ ≠ (.slice Ao30 t258.length co30 : Value).ownBlock ∧ some k_ ≠ (.slice Ao32 t261.length co32 : Value).ownBlock ∧ some k_ ≠ (.slice Ao46 t270.length co46 : Value).ownBlock ∧ some k_ ≠ (s_.2.1 : Value).ownBlock ∧ some k_ ≠ (s_.2.2.1 : Value).ownBlock) (.slice Ao47 t273.length co47) t273) ∧ (Kd.R k93 93 w' w.heap.size (fun k_ => some k_ ≠ (v243 : Value).ownBlock ∧ some k_ ≠ (.slice Ao28 t255.length co28 : Value).ownBlock ∧ some k_ ≠ (.slice Ao41 t267.length co41 : Value).ownBlock) s_.1 t281) ∧ (Kd.R (Kd.int .i64) 3 w' w.heap.size (fun k_ => some k_ ≠ (v246 : Value).ownBlock ∧ some k_ ≠ (v249 : Value).ownBlock ∧ some k_ ≠ (.slice Ao30 t258.length co30 : Value).ownBlock ∧ some k_ ≠ (.slice Ao32 t261.length co32 : Value).ownBlock ∧ some k_ ≠ (.slice Ao46 t270.length co46 : Value).ownBlock ∧ some k_ ≠ (.slice Ao47 t273.length co47 : Value).ownBlock ∧ some k_ ≠ (s_.2.2.1 : Value).ownBlock) s_.2.1 t284) ∧ (Kd.R (Kd.int .i64) 3 w' w.heap.size (fun k_ => some k_ ≠ (v246 : Value).ownBlock ∧ some k_ ≠ (v249 : Value).ownBlock ∧ some k_ ≠ (.slice Ao30 t258.length co30 : Value).ownBlock ∧ some k_ ≠ (.slice Ao32 t261.length co32 : Value).ownBlock ∧ some k_ ≠ (.slice Ao46 t270.length co46 : Value).ownBlock ∧ some k_ ≠ (.slice Ao47 t273.length co47 : Value).ownBlock ∧ some k_ ≠ (s_.2.1 : Value).ownBlock) s_.2.2.1 t287) ∧ (w'.heap[gb239]? = some (.cells #[.slice A0_0 l0_0.length c0_0, .slice A0_1 l0_1.length c0_1, .slice A0_2 l0_2.length c0_2, .int .i64 a0_3, .int .i64 a0_4] 47 (0, 0))) ∧ (w'.heap[gb240]? = some (.cells #[.int .i64 a1_0, .int .i64 a1_1] 48 (0, 0))) ∧ (w'.heap[gb266]? = some (.cells #[.slice Ao28 t255.length co28, .slice Ao30 t258.length co30, .slice Ao32 t261.length co32, .int .i64 t264, .int .i64 t265] 34 (0, 0))) ∧ (w'.heap[gb278]? = some (.cells #[.slice Ao41 t267.length co41, .slice Ao46 t270.length co46, .slice Ao47 t273.length co47, .int .i64 t276, .int .i64 t277] 34 (0, 0))) ∧ (w'.heap[s_.2.2.2]? = some (.cells #[.slice none 0 0, .slice none 0 0, .slice none 0 0, .int .i64 0, .int .i64 0] 34 (0, 0))) ∧ (w.heap.size ≤ s_.2.2.2) ∧ (w.heap.size ≤ s_.2.2.2) ∧ (gb239 ≠ s_.2.2.2) ∧ (s_.2.2.2 ≠ gb239) ∧ (gb240 ≠ s_.2.2.2) ∧ (s_.2.2.2 ≠ gb240) ∧ (gb266 ≠ s_.2.2.2) ∧ (s_.2.2.2 ≠ gb266) ∧ (gb278 ≠ s_.2.2.2) ∧ (s_.2.2.2 ≠ gb278) ∧ (Below w.heap.size w w')) ?_ ?_
   rotate_left
   ·
    intro hCont
    refine two_ (i := 2) (j := 4) (Ni := some 27) (Nj := some 8) #[true, true, true, false, false, false] #[true, true, false, false, true, false] rfl rfl rfl rfl (by kernel_rfl) (by decide) (by decide) (fun K hK => ?_) (fun K hK => ?_)
    ·
     skip
     refine goes_ Try.func26 (by kernel_rfl) rfl #[.agg #[.int .i64 a1_0, .int .i64 a1_1]] (by rfl) rfl rfl (by (try simp only [lm]); first | done | rfl | (simp only [List.length_drop, List.length_take]; rfl)) ?_
     with_reducible refine (laws_toValue.calls a1_0 a1_1 t279 t280 _ A15.out).mono ?_
     rintro e w50 ⟨rfl, hb⟩
     refine ⟨_, rfl, ?_⟩
     replace HO244 := As.mk (Kd.R_below (by (with_reducible repeat (first | apply Kd.R_alloc | apply Kd.R_drewN | apply Kd.R_drew)); exact HO244.out) hb)
     replace HO247 := As.mk (Kd.R_below (by (with_reducible repeat (first | apply Kd.R_alloc | apply Kd.R_drewN | apply Kd.R_drew)); exact HO247.out) hb)
     replace HO250 := As.mk (Kd.R_below (by (with_reducible repeat (first | apply Kd.R_alloc | apply Kd.R_drewN | apply Kd.R_drew)); exact HO250.out) hb)
     replace HO257 := As.mk (Kd.R_below (by (with_reducible repeat (first | apply Kd.R_alloc | apply Kd.R_drewN | apply Kd.R_drew)); exact HO257.out) hb)
     replace HO260 := As.mk (Kd.R_below (by (with_reducible repeat (first | apply Kd.R_alloc | apply Kd.R_drewN | apply Kd.R_drew)); exact HO260.out) hb)
     replace HO263 := As.mk (Kd.R_below (by (with_reducible repeat (first | apply Kd.R_alloc | apply Kd.R_drewN | apply Kd.R_drew)); exact HO263.out) hb)
     replace HO269 := As.mk (Kd.R_below (by (with_reducible repeat (first | apply Kd.R_alloc | apply Kd.R_drewN | apply Kd.R_drew)); exact HO269.out) hb)
     replace HO272 := As.mk (Kd.R_below (by (with_reducible repeat (first | apply Kd.R_alloc | apply Kd.R_drewN | apply Kd.R_drew)); exact HO272.out) hb)
     replace HO275 := As.mk (Kd.R_below (by (with_reducible repeat (first | apply Kd.R_alloc | apply Kd.R_drewN | apply Kd.R_drew)); exact HO275.out) hb)
     replace BK239 := As.mk (blk_below (bx BK239.out) hb)
     replace BK240 := As.mk (blk_below (bx BK240.out) hb)
     replace BK266 := As.mk (blk_below (bx BK266.out) hb)
     replace BK278 := As.mk (blk_below (bx BK278.out) hb)
     replace HB := As.mk (below_step (be w) hb)
     (try clear hb)
     (try clear hb2)
     (try clear hk)
     (try clear hi)
     refine hK.out _ _ ⟨(blk_cell BK278.out 0).trans rfl, (blk_cell BK278.out 1).trans rfl, (blk_cell BK278.out 2).trans rfl, (blk_cell BK278.out 3).trans rfl, (blk_cell BK278.out 4).trans rfl, (blk_cell BK240.out 0).trans rfl, (blk_cell BK240.out 1).trans rfl⟩ (fun hHeld => ?_)
     clear hK K
     refine norm_ (a' := ?_) ?_ ?_
     rotate_left
     ·
      show Act.put _ (some 27) _ = _
      simp only [pk, i64_w, i32_w]
      rfl
     refine two_ (i := 3) (j := 4) (Ni := some 28) (Nj := some 8) #[true, true, true, true, false, false] #[true, true, true, false, true, false] rfl rfl rfl rfl (by kernel_rfl) (by decide) (by decide) (fun K hK => ?_) (fun K hK => ?_)
     ·
      skip
      refine goes_ Try.func22 (by kernel_rfl) rfl #[.agg #[.slice Ao41 t267.length co41, .slice Ao46 t270.length co46, .slice Ao47 t273.length co47, .int .i64 t276, .int .i64 t277], .agg #[.int .i64 t279, .int .i64 t280]] (by rfl) rfl rfl (by (try simp only [lm]); first | done | rfl | (simp only [List.length_drop, List.length_take]; rfl)) ?_
      with_reducible refine (impl_Freed.calls _ _ t267 _ _ t270 _ _ t273 t276 t277 t279 t280 t281 t284 t287 t290 t291 _ ?side1 ?side2 ?side3 ?side4 ?side5 ?side6 A16.out).mono ?_
      (case side1 => repeat (first | exact (Kd.R_reads' HO269.out).2.2 | (with_reducible refine Kd.C_alloc ?_ _) | (with_reducible refine Kd.C_drewN ?_ _) | (with_reducible refine Kd.C_drew ?_)))
      (case side2 => exact (Kd.R_reads' HO269.out).2.1)
      (case side3 => repeat (first | exact (Kd.R_reads' HO272.out).2.2 | (with_reducible refine Kd.C_alloc ?_ _) | (with_reducible refine Kd.C_drewN ?_ _) | (with_reducible refine Kd.C_drew ?_)))
      (case side4 => exact (Kd.R_reads' HO272.out).2.1)
      (case side5 => repeat (first | exact (Kd.R_reads' HO275.out).2.2 | (with_reducible refine Kd.C_alloc ?_ _) | (with_reducible refine Kd.C_drewN ?_ _) | (with_reducible refine Kd.C_drew ?_)))
      (case side6 => exact (Kd.R_reads' HO275.out).2.1)
      rintro e w51 ⟨v282, v285, v288, rfl, ho0, ho1, ho2, hb⟩
      refine ⟨_, rfl, ?_⟩
      have HO283 := As.mk (Kd.R_lower (Kd.R_new' (Kd.R_new' (Kd.R_new' ho0 (Kd.R_lt (by (with_reducible repeat (first | apply Kd.R_alloc | apply Kd.R_drewN | apply Kd.R_drew)); exact HO244.out))) (Kd.R_lt (by (with_reducible repeat (first | apply Kd.R_alloc | apply Kd.R_drewN | apply Kd.R_drew)); exact HO257.out))) (Kd.R_lt (by (with_reducible repeat (first | apply Kd.R_alloc | apply Kd.R_drewN | apply Kd.R_drew)); exact HO269.out))) (below_size (be w)))
      replace HO244 := As.mk (Kd.R_elder' (by (with_reducible repeat (first | apply Kd.R_alloc | apply Kd.R_drewN | apply Kd.R_drew)); exact HO244.out) (Kd.R_base ho0) hb)
      replace HO257 := As.mk (Kd.R_elder' (by (with_reducible repeat (first | apply Kd.R_alloc | apply Kd.R_drewN | apply Kd.R_drew)); exact HO257.out) (Kd.R_base ho0) hb)
      replace HO269 := As.mk (Kd.R_elder' (by (with_reducible repeat (first | apply Kd.R_alloc | apply Kd.R_drewN | apply Kd.R_drew)); exact HO269.out) (Kd.R_base ho0) hb)
      have HO286 := As.mk (Kd.R_lower (Kd.R_new' (Kd.R_new' (Kd.R_new' (Kd.R_new' (Kd.R_new' (Kd.R_new' ho1 (Kd.R_lt (by (with_reducible repeat (first | apply Kd.R_alloc | apply Kd.R_drewN | apply Kd.R_drew)); exact HO247.out))) (Kd.R_lt (by (with_reducible repeat (first | apply Kd.R_alloc | apply Kd.R_drewN | apply Kd.R_drew)); exact HO250.out))) (Kd.R_lt (by (with_reducible repeat (first | apply Kd.R_alloc | apply Kd.R_drewN | apply Kd.R_drew)); exact HO260.out))) (Kd.R_lt (by (with_reducible repeat (first | apply Kd.R_alloc | apply Kd.R_drewN | apply Kd.R_drew)); exact HO263.out))) (Kd.R_lt (by (with_reducible repeat (first | apply Kd.R_alloc | apply Kd.R_drewN | apply Kd.R_drew)); exact HO272.out))) (Kd.R_lt (by (with_reducible repeat (first | apply Kd.R_alloc | apply Kd.R_drewN | apply Kd.R_drew)); exact HO275.out))) (below_size (be w)))
      have HO289 := As.mk (Kd.R_lower (Kd.R_new' (Kd.R_new' (Kd.R_new' (Kd.R_new' (Kd.R_new' (Kd.R_new' ho2 (Kd.R_lt (by (with_reducible repeat (first | apply Kd.R_alloc | apply Kd.R_drewN | apply Kd.R_drew)); exact HO247.out))) (Kd.R_lt (by (with_reducible repeat (first | apply Kd.R_alloc | apply Kd.R_drewN | apply Kd.R_drew)); exact HO250.out))) (Kd.R_lt (by (with_reducible repeat (first | apply Kd.R_alloc | apply Kd.R_drewN | apply Kd.R_drew)); exact HO260.out))) (Kd.R_lt (by (with_reducible repeat (first | apply Kd.R_alloc | apply Kd.R_drewN | apply Kd.R_drew)); exact HO263.out))) (Kd.R_lt (by (with_reducible repeat (first | apply Kd.R_alloc | apply Kd.R_drewN | apply Kd.R_drew)); exact HO272.out))) (Kd.R_lt (by (with_reducible repeat (first | apply Kd.R_alloc | apply Kd.R_drewN | apply Kd.R_drew)); exact HO275.out))) (below_size (be w)))
      replace HO247 := As.mk (Kd.R_mono (Kd.R_told (Kd.R_told (Kd.R_old (by (with_reducible repeat (first | apply Kd.R_alloc | apply Kd.R_drewN | apply Kd.R_drew)); exact HO247.out) hb) (Kd.R_base ho1)) (Kd.R_base ho2)) (fun _ h_ => h_.1))
      replace HO250 := As.mk (Kd.R_mono (Kd.R_told (Kd.R_told (Kd.R_old (by (with_reducible repeat (first | apply Kd.R_alloc | apply Kd.R_drewN | apply Kd.R_drew)); exact HO250.out) hb) (Kd.R_base ho1)) (Kd.R_base ho2)) (fun _ h_ => h_.1))
      replace HO260 := As.mk (Kd.R_mono (Kd.R_told (Kd.R_told (Kd.R_old (by (with_reducible repeat (first | apply Kd.R_alloc | apply Kd.R_drewN | apply Kd.R_drew)); exact HO260.out) hb) (Kd.R_base ho1)) (Kd.R_base ho2)) (fun _ h_ => h_.1))
      replace HO263 := As.mk (Kd.R_mono (Kd.R_told (Kd.R_told (Kd.R_old (by (with_reducible repeat (first | apply Kd.R_alloc | apply Kd.R_drewN | apply Kd.R_drew)); exact HO263.out) hb) (Kd.R_base ho1)) (Kd.R_base ho2)) (fun _ h_ => h_.1))
      replace HO272 := As.mk (Kd.R_mono (Kd.R_told (Kd.R_told (Kd.R_old (by (with_reducible repeat (first | apply Kd.R_alloc | apply Kd.R_drewN | apply Kd.R_drew)); exact HO272.out) hb) (Kd.R_base ho1)) (Kd.R_base ho2)) (fun _ h_ => h_.1))
      replace HO275 := As.mk (Kd.R_mono (Kd.R_told (Kd.R_told (Kd.R_old (by (with_reducible repeat (first | apply Kd.R_alloc | apply Kd.R_drewN | apply Kd.R_drew)); exact HO275.out) hb) (Kd.R_base ho1)) (Kd.R_base ho2)) (fun _ h_ => h_.1))
      replace BK239 := As.mk (blk_below (bx BK239.out) hb)
      replace BK240 := As.mk (blk_below (bx BK240.out) hb)
      replace BK266 := As.mk (blk_below (bx BK266.out) hb)
      replace BK278 := As.mk (blk_below (bx BK278.out) hb)
      replace HB := As.mk (below_step (be w) hb)
      (try clear hb)
      (try clear hb2)
      (try clear hk)
      (try clear hi)
      (try clear ho0)
      (try clear ho1)
      (try clear ho2)
      refine hK.out _ _ ⟨(blk_cell BK278.out 0).trans rfl, (blk_cell BK278.out 1).trans rfl, (blk_cell BK278.out 2).trans rfl, (blk_cell BK278.out 3).trans rfl, (blk_cell BK278.out 4).trans rfl, (blk_cell BK240.out 0).trans rfl, (blk_cell BK240.out 1).trans rfl⟩ (fun hHeld => ?_)
      clear hK K
      refine norm_ (a' := ?_) ?_ ?_
      rotate_left
      ·
       show Act.put _ (some 28) _ = _
       simp only [pk, i64_w, i32_w]
       rfl
      refine one_ (i := 4) (N := some 8) #[I, I, I, I, I, O] rfl rfl (by kernel_rfl) (by decide) (fun K hK => ?_)
      refine box_step ?hg (N := 8) ?hd (cs := #[.slice none 0 0, .slice none 0 0, .slice none 0 0, .int .i64 0, .int .i64 0]) (t := 34) ?hr ?_; (case hd => rfl); (case hg => rfl); (case hr => first | (go_simp; done) | (go_simp; rfl))
      intro gb292 hg w52 hbox hb
      replace HO244 := As.mk (Kd.R_below (by (with_reducible repeat (first | apply Kd.R_alloc | apply Kd.R_drewN | apply Kd.R_drew)); exact HO244.out) hb)
      replace HO247 := As.mk (Kd.R_below (by (with_reducible repeat (first | apply Kd.R_alloc | apply Kd.R_drewN | apply Kd.R_drew)); exact HO247.out) hb)
      replace HO250 := As.mk (Kd.R_below (by (with_reducible repeat (first | apply Kd.R_alloc | apply Kd.R_drewN | apply Kd.R_drew)); exact HO250.out) hb)
      replace HO257 := As.mk (Kd.R_below (by (with_reducible repeat (first | apply Kd.R_alloc | apply Kd.R_drewN | apply Kd.R_drew)); exact HO257.out) hb)
      replace HO260 := As.mk (Kd.R_below (by (with_reducible repeat (first | apply Kd.R_alloc | apply Kd.R_drewN | apply Kd.R_drew)); exact HO260.out) hb)
      replace HO263 := As.mk (Kd.R_below (by (with_reducible repeat (first | apply Kd.R_alloc | apply Kd.R_drewN | apply Kd.R_drew)); exact HO263.out) hb)
      replace HO269 := As.mk (Kd.R_below (by (with_reducible repeat (first | apply Kd.R_alloc | apply Kd.R_drewN | apply Kd.R_drew)); exact HO269.out) hb)
      replace HO272 := As.mk (Kd.R_below (by (with_reducible repeat (first | apply Kd.R_alloc | apply Kd.R_drewN | apply Kd.R_drew)); exact HO272.out) hb)
      replace HO275 := As.mk (Kd.R_below (by (with_reducible repeat (first | apply Kd.R_alloc | apply Kd.R_drewN | apply Kd.R_drew)); exact HO275.out) hb)
      replace HO283 := As.mk (Kd.R_below (by (with_reducible repeat (first | apply Kd.R_alloc | apply Kd.R_drewN | apply Kd.R_drew)); exact HO283.out) hb)
      replace HO286 := As.mk (Kd.R_below (by (with_reducible repeat (first | apply Kd.R_alloc | apply Kd.R_drewN | apply Kd.R_drew)); exact HO286.out) hb)
      replace HO289 := As.mk (Kd.R_below (by (with_reducible repeat (first | apply Kd.R_alloc | apply Kd.R_drewN | apply Kd.R_drew)); exact HO289.out) hb)
      have BK292 := As.mk (hbox)
      have GW292 := As.mk (gs w hg)
      have GE292 := As.mk (gs w hg)
      replace HB := As.mk (below_step (be w) hb)
      have NB239_292 := As.mk (nl hg (bx BK239.out))
      have NB292_239 := As.mk (ng hg (bx BK239.out))
      replace BK239 := As.mk (blk_below (bx BK239.out) hb)
      have NB240_292 := As.mk (nl hg (bx BK240.out))
      have NB292_240 := As.mk (ng hg (bx BK240.out))
      replace BK240 := As.mk (blk_below (bx BK240.out) hb)
      have NB266_292 := As.mk (nl hg (bx BK266.out))
      have NB292_266 := As.mk (ng hg (bx BK266.out))
      replace BK266 := As.mk (blk_below (bx BK266.out) hb)
      have NB278_292 := As.mk (nl hg (bx BK278.out))
      have NB292_278 := As.mk (ng hg (bx BK278.out))
      replace BK278 := As.mk (blk_below (bx BK278.out) hb)
      clear hb hbox hg
      refine hK.out _ _ ⟨(blk_cell BK278.out 0).trans rfl, (blk_cell BK278.out 1).trans rfl, (blk_cell BK278.out 2).trans rfl, (blk_cell BK278.out 3).trans rfl, (blk_cell BK278.out 4).trans rfl, (blk_cell BK240.out 0).trans rfl, (blk_cell BK240.out 1).trans rfl⟩ (fun hHeld => ?_)
      clear hK K
      refine norm_ (a' := ?_) ?_ ?_
      rotate_left
      ·
       show Act.put _ (some 8) _ = _
       simp only [pk, i64_w, i32_w]
       rfl
      exact norm_ (by simp only [putAll, Act.put, List.setIfInBounds_toArray, List.set_cons_zero, List.set_cons_succ]) (hCont (v282, v285, v288, gb292) _ ⟨hHeld, (by (with_reducible repeat (first | apply Kd.R_alloc | apply Kd.R_drewN | apply Kd.R_drew)); exact Kd.R_mono HO244.out (fun _ hk => ⟨hk.1.1, ⟨hk.1.2, hk.2⟩⟩)), (by (with_reducible repeat (first | apply Kd.R_alloc | apply Kd.R_drewN | apply Kd.R_drew)); exact Kd.R_mono HO247.out (fun _ hk => ⟨hk.1.1.1, ⟨hk.1.1.2.1, ⟨hk.1.1.2.2.1, ⟨hk.1.1.2.2.2.1, ⟨hk.1.1.2.2.2.2, ⟨hk.1.2, hk.2⟩⟩⟩⟩⟩⟩)), (by (with_reducible repeat (first | apply Kd.R_alloc | apply Kd.R_drewN | apply Kd.R_drew)); exact Kd.R_mono HO250.out (fun _ hk => ⟨hk.1.1.1, ⟨hk.1.1.2.1, ⟨hk.1.1.2.2.1, ⟨hk.1.1.2.2.2.1, ⟨hk.1.1.2.2.2.2, ⟨hk.1.2, hk.2⟩⟩⟩⟩⟩⟩)), (by (with_reducible repeat (first | apply Kd.R_alloc | apply Kd.R_drewN | apply Kd.R_drew)); exact Kd.R_mono HO257.out (fun _ hk => ⟨hk.1.1, ⟨hk.1.2, hk.2⟩⟩)), (by (with_reducible repeat (first | apply Kd.R_alloc | apply Kd.R_drewN | apply Kd.R_drew)); exact Kd.R_mono HO260.out (fun _ hk => ⟨hk.1.1.1, ⟨hk.1.1.2.1, ⟨hk.1.1.2.2.1, ⟨hk.1.1.2.2.2.1, ⟨hk.1.1.2.2.2.2, ⟨hk.1.2, hk.2⟩⟩⟩⟩⟩⟩)), (by (with_reducible repeat (first | apply Kd.R_alloc | apply Kd.R_drewN | apply Kd.R_drew)); exact Kd.R_mono HO263.out (fun _ hk => ⟨hk.1.1.1, ⟨hk.1.1.2.1, ⟨hk.1.1.2.2.1, ⟨hk.1.1.2.2.2.1, ⟨hk.1.1.2.2.2.2, ⟨hk.1.2, hk.2⟩⟩⟩⟩⟩⟩)), (by (with_reducible repeat (first | apply Kd.R_alloc | apply Kd.R_drewN | apply Kd.R_drew)); exact Kd.R_mono HO269.out (fun _ hk => ⟨hk.1.1, ⟨hk.1.2, hk.2⟩⟩)), (by (with_reducible repeat (first | apply Kd.R_alloc | apply Kd.R_drewN | apply Kd.R_drew)); exact Kd.R_mono HO272.out (fun _ hk => ⟨hk.1.1.1, ⟨hk.1.1.2.1, ⟨hk.1.1.2.2.1, ⟨hk.1.1.2.2.2.1, ⟨hk.1.1.2.2.2.2, ⟨hk.1.2, hk.2⟩⟩⟩⟩⟩⟩)), (by (with_reducible repeat (first | apply Kd.R_alloc | apply Kd.R_drewN | apply Kd.R_drew)); exact Kd.R_mono HO275.out (fun _ hk => ⟨hk.1.1.1, ⟨hk.1.1.2.1, ⟨hk.1.1.2.2.1, ⟨hk.1.1.2.2.2.1, ⟨hk.1.1.2.2.2.2, ⟨hk.1.2, hk.2⟩⟩⟩⟩⟩⟩)), (by (with_reducible repeat (first | apply Kd.R_alloc | apply Kd.R_drewN | apply Kd.R_drew)); exact Kd.R_mono HO283.out (fun _ hk => ⟨hk.1.1.2, ⟨hk.1.2, hk.2⟩⟩)), (by (with_reducible repeat (first | apply Kd.R_alloc | apply Kd.R_drewN | apply Kd.R_drew)); exact Kd.R_mono HO286.out (fun _ hk => ⟨hk.1.1.1.1.1.2, ⟨hk.1.1.1.1.2, ⟨hk.1.1.1.2, ⟨hk.1.1.2, ⟨hk.1.2, ⟨hk.2, hk.1.1.1.1.1.1⟩⟩⟩⟩⟩⟩)), (by (with_reducible repeat (first | apply Kd.R_alloc | apply Kd.R_drewN | apply Kd.R_drew)); exact Kd.R_mono HO289.out (fun _ hk => ⟨hk.1.1.1.1.1.2, ⟨hk.1.1.1.1.2, ⟨hk.1.1.1.2, ⟨hk.1.1.2, ⟨hk.1.2, ⟨hk.2, hk.1.1.1.1.1.1⟩⟩⟩⟩⟩⟩)), (bx BK239.out), (bx BK240.out), (bx BK266.out), (bx BK278.out), (bx BK292.out), GW292.out, GE292.out, NB239_292.out, NB292_239.out, NB240_292.out, NB292_240.out, NB266_292.out, NB292_266.out, NB278_292.out, NB292_278.out, (be w)⟩)
     ·
      skip
      refine box_step ?hg (N := 8) ?hd (cs := #[.slice none 0 0, .slice none 0 0, .slice none 0 0, .int .i64 0, .int .i64 0]) (t := 34) ?hr ?_; (case hd => rfl); (case hg => rfl); (case hr => first | (go_simp; done) | (go_simp; rfl))
      intro gb292 hg w51 hbox hb
      replace HO244 := As.mk (Kd.R_below (by (with_reducible repeat (first | apply Kd.R_alloc | apply Kd.R_drewN | apply Kd.R_drew)); exact HO244.out) hb)
      replace HO247 := As.mk (Kd.R_below (by (with_reducible repeat (first | apply Kd.R_alloc | apply Kd.R_drewN | apply Kd.R_drew)); exact HO247.out) hb)
      replace HO250 := As.mk (Kd.R_below (by (with_reducible repeat (first | apply Kd.R_alloc | apply Kd.R_drewN | apply Kd.R_drew)); exact HO250.out) hb)
      replace HO257 := As.mk (Kd.R_below (by (with_reducible repeat (first | apply Kd.R_alloc | apply Kd.R_drewN | apply Kd.R_drew)); exact HO257.out) hb)
      replace HO260 := As.mk (Kd.R_below (by (with_reducible repeat (first | apply Kd.R_alloc | apply Kd.R_drewN | apply Kd.R_drew)); exact HO260.out) hb)
      replace HO263 := As.mk (Kd.R_below (by (with_reducible repeat (first | apply Kd.R_alloc | apply Kd.R_drewN | apply Kd.R_drew)); exact HO263.out) hb)
      replace HO269 := As.mk (Kd.R_below (by (with_reducible repeat (first | apply Kd.R_alloc | apply Kd.R_drewN | apply Kd.R_drew)); exact HO269.out) hb)
      replace HO272 := As.mk (Kd.R_below (by (with_reducible repeat (first | apply Kd.R_alloc | apply Kd.R_drewN | apply Kd.R_drew)); exact HO272.out) hb)
      replace HO275 := As.mk (Kd.R_below (by (with_reducible repeat (first | apply Kd.R_alloc | apply Kd.R_drewN | apply Kd.R_drew)); exact HO275.out) hb)
      have BK292 := As.mk (hbox)
      have GW292 := As.mk (gs w hg)
      have GE292 := As.mk (gs w hg)
      replace HB := As.mk (below_step (be w) hb)
      have NB239_292 := As.mk (nl hg (bx BK239.out))
      have NB292_239 := As.mk (ng hg (bx BK239.out))
      replace BK239 := As.mk (blk_below (bx BK239.out) hb)
      have NB240_292 := As.mk (nl hg (bx BK240.out))
      have NB292_240 := As.mk (ng hg (bx BK240.out))
      replace BK240 := As.mk (blk_below (bx BK240.out) hb)
      have NB266_292 := As.mk (nl hg (bx BK266.out))
      have NB292_266 := As.mk (ng hg (bx BK266.out))
      replace BK266 := As.mk (blk_below (bx BK266.out) hb)
      have NB278_292 := As.mk (nl hg (bx BK278.out))
      have NB292_278 := As.mk (ng hg (bx BK278.out))
      replace BK278 := As.mk (blk_below (bx BK278.out) hb)
      clear hb hbox hg
      refine hK.out _ _ ⟨(blk_cell BK278.out 0).trans rfl, (blk_cell BK278.out 1).trans rfl, (blk_cell BK278.out 2).trans rfl, (blk_cell BK278.out 3).trans rfl, (blk_cell BK278.out 4).trans rfl, (blk_cell BK240.out 0).trans rfl, (blk_cell BK240.out 1).trans rfl⟩ (fun hHeld => ?_)
      clear hK K
      refine norm_ (a' := ?_) ?_ ?_
      rotate_left
      ·
       show Act.put _ (some 8) _ = _
       simp only [pk, i64_w, i32_w]
       rfl
      refine one_ (i := 3) (N := some 28) #[I, I, I, I, I, O] rfl rfl (by kernel_rfl) (by decide) (fun K hK => ?_)
      refine goes_ Try.func22 (by kernel_rfl) rfl #[.agg #[.slice Ao41 t267.length co41, .slice Ao46 t270.length co46, .slice Ao47 t273.length co47, .int .i64 t276, .int .i64 t277], .agg #[.int .i64 t279, .int .i64 t280]] (by rfl) rfl rfl (by (try simp only [lm]); first | done | rfl | (simp only [List.length_drop, List.length_take]; rfl)) ?_
      with_reducible refine (impl_Freed.calls _ _ t267 _ _ t270 _ _ t273 t276 t277 t279 t280 t281 t284 t287 t290 t291 _ ?side1 ?side2 ?side3 ?side4 ?side5 ?side6 A16.out).mono ?_
      (case side1 => repeat (first | exact (Kd.R_reads' HO269.out).2.2 | (with_reducible refine Kd.C_alloc ?_ _) | (with_reducible refine Kd.C_drewN ?_ _) | (with_reducible refine Kd.C_drew ?_)))
      (case side2 => exact (Kd.R_reads' HO269.out).2.1)
      (case side3 => repeat (first | exact (Kd.R_reads' HO272.out).2.2 | (with_reducible refine Kd.C_alloc ?_ _) | (with_reducible refine Kd.C_drewN ?_ _) | (with_reducible refine Kd.C_drew ?_)))
      (case side4 => exact (Kd.R_reads' HO272.out).2.1)
      (case side5 => repeat (first | exact (Kd.R_reads' HO275.out).2.2 | (with_reducible refine Kd.C_alloc ?_ _) | (with_reducible refine Kd.C_drewN ?_ _) | (with_reducible refine Kd.C_drew ?_)))
      (case side6 => exact (Kd.R_reads' HO275.out).2.1)
      rintro e w52 ⟨v282, v285, v288, rfl, ho0, ho1, ho2, hb⟩
      refine ⟨_, rfl, ?_⟩
      have HO283 := As.mk (Kd.R_lower (Kd.R_new' (Kd.R_new' (Kd.R_new' ho0 (Kd.R_lt (by (with_reducible repeat (first | apply Kd.R_alloc | apply Kd.R_drewN | apply Kd.R_drew)); exact HO244.out))) (Kd.R_lt (by (with_reducible repeat (first | apply Kd.R_alloc | apply Kd.R_drewN | apply Kd.R_drew)); exact HO257.out))) (Kd.R_lt (by (with_reducible repeat (first | apply Kd.R_alloc | apply Kd.R_drewN | apply Kd.R_drew)); exact HO269.out))) (below_size (be w)))
      replace HO244 := As.mk (Kd.R_elder' (by (with_reducible repeat (first | apply Kd.R_alloc | apply Kd.R_drewN | apply Kd.R_drew)); exact HO244.out) (Kd.R_base ho0) hb)
      replace HO257 := As.mk (Kd.R_elder' (by (with_reducible repeat (first | apply Kd.R_alloc | apply Kd.R_drewN | apply Kd.R_drew)); exact HO257.out) (Kd.R_base ho0) hb)
      replace HO269 := As.mk (Kd.R_elder' (by (with_reducible repeat (first | apply Kd.R_alloc | apply Kd.R_drewN | apply Kd.R_drew)); exact HO269.out) (Kd.R_base ho0) hb)
      have HO286 := As.mk (Kd.R_lower (Kd.R_new' (Kd.R_new' (Kd.R_new' (Kd.R_new' (Kd.R_new' (Kd.R_new' ho1 (Kd.R_lt (by (with_reducible repeat (first | apply Kd.R_alloc | apply Kd.R_drewN | apply Kd.R_drew)); exact HO247.out))) (Kd.R_lt (by (with_reducible repeat (first | apply Kd.R_alloc | apply Kd.R_drewN | apply Kd.R_drew)); exact HO250.out))) (Kd.R_lt (by (with_reducible repeat (first | apply Kd.R_alloc | apply Kd.R_drewN | apply Kd.R_drew)); exact HO260.out))) (Kd.R_lt (by (with_reducible repeat (first | apply Kd.R_alloc | apply Kd.R_drewN | apply Kd.R_drew)); exact HO263.out))) (Kd.R_lt (by (with_reducible repeat (first | apply Kd.R_alloc | apply Kd.R_drewN | apply Kd.R_drew)); exact HO272.out))) (Kd.R_lt (by (with_reducible repeat (first | apply Kd.R_alloc | apply Kd.R_drewN | apply Kd.R_drew)); exact HO275.out))) (below_size (be w)))
      have HO289 := As.mk (Kd.R_lower (Kd.R_new' (Kd.R_new' (Kd.R_new' (Kd.R_new' (Kd.R_new' (Kd.R_new' ho2 (Kd.R_lt (by (with_reducible repeat (first | apply Kd.R_alloc | apply Kd.R_drewN | apply Kd.R_drew)); exact HO247.out))) (Kd.R_lt (by (with_reducible repeat (first | apply Kd.R_alloc | apply Kd.R_drewN | apply Kd.R_drew)); exact HO250.out))) (Kd.R_lt (by (with_reducible repeat (first | apply Kd.R_alloc | apply Kd.R_drewN | apply Kd.R_drew)); exact HO260.out))) (Kd.R_lt (by (with_reducible repeat (first | apply Kd.R_alloc | apply Kd.R_drewN | apply Kd.R_drew)); exact HO263.out))) (Kd.R_lt (by (with_reducible repeat (first | apply Kd.R_alloc | apply Kd.R_drewN | apply Kd.R_drew)); exact HO272.out))) (Kd.R_lt (by (with_reducible repeat (first | apply Kd.R_alloc | apply Kd.R_drewN | apply Kd.R_drew)); exact HO275.out))) (below_size (be w)))
      replace HO247 := As.mk (Kd.R_mono (Kd.R_told (Kd.R_told (Kd.R_old (by (with_reducible repeat (first | apply Kd.R_alloc | apply Kd.R_drewN | apply Kd.R_drew)); exact HO247.out) hb) (Kd.R_base ho1)) (Kd.R_base ho2)) (fun _ h_ => h_.1))
      replace HO250 := As.mk (Kd.R_mono (Kd.R_told (Kd.R_told (Kd.R_old (by (with_reducible repeat (first | apply Kd.R_alloc | apply Kd.R_drewN | apply Kd.R_drew)); exact HO250.out) hb) (Kd.R_base ho1)) (Kd.R_base ho2)) (fun _ h_ => h_.1))
      replace HO260 := As.mk (Kd.R_mono (Kd.R_told (Kd.R_told (Kd.R_old (by (with_reducible repeat (first | apply Kd.R_alloc | apply Kd.R_drewN | apply Kd.R_drew)); exact HO260.out) hb) (Kd.R_base ho1)) (Kd.R_base ho2)) (fun _ h_ => h_.1))
      replace HO263 := As.mk (Kd.R_mono (Kd.R_told (Kd.R_told (Kd.R_old (by (with_reducible repeat (first | apply Kd.R_alloc | apply Kd.R_drewN | apply Kd.R_drew)); exact HO263.out) hb) (Kd.R_base ho1)) (Kd.R_base ho2)) (fun _ h_ => h_.1))
      replace HO272 := As.mk (Kd.R_mono (Kd.R_told (Kd.R_told (Kd.R_old (by (with_reducible repeat (first | apply Kd.R_alloc | apply Kd.R_drewN | apply Kd.R_drew)); exact HO272.out) hb) (Kd.R_base ho1)) (Kd.R_base ho2)) (fun _ h_ => h_.1))
      replace HO275 := As.mk (Kd.R_mono (Kd.R_told (Kd.R_told (Kd.R_old (by (with_reducible repeat (first | apply Kd.R_alloc | apply Kd.R_drewN | apply Kd.R_drew)); exact HO275.out) hb) (Kd.R_base ho1)) (Kd.R_base ho2)) (fun _ h_ => h_.1))
      replace BK239 := As.mk (blk_below (bx BK239.out) hb)
      replace BK240 := As.mk (blk_below (bx BK240.out) hb)
      replace BK266 := As.mk (blk_below (bx BK266.out) hb)
      replace BK278 := As.mk (blk_below (bx BK278.out) hb)
      replace BK292 := As.mk (blk_below (bx BK292.out) hb)
      replace HB := As.mk (below_step (be w) hb)
      (try clear hb)
      (try clear hb2)
      (try clear hk)
      (try clear hi)
      (try clear ho0)
      (try clear ho1)
      (try clear ho2)
      refine hK.out _ _ ⟨(blk_cell BK278.out 0).trans rfl, (blk_cell BK278.out 1).trans rfl, (blk_cell BK278.out 2).trans rfl, (blk_cell BK278.out 3).trans rfl, (blk_cell BK278.out 4).trans rfl, (blk_cell BK240.out 0).trans rfl, (blk_cell BK240.out 1).trans rfl⟩ (fun hHeld => ?_)
      clear hK K
      refine norm_ (a' := ?_) ?_ ?_
      rotate_left
      ·
       show Act.put _ (some 28) _ = _
       simp only [pk, i64_w, i32_w]
       rfl
      exact norm_ (by simp only [putAll, Act.put, List.setIfInBounds_toArray, List.set_cons_zero, List.set_cons_succ]) (hCont (v282, v285, v288, gb292) _ ⟨hHeld, (by (with_reducible repeat (first | apply Kd.R_alloc | apply Kd.R_drewN | apply Kd.R_drew)); exact Kd.R_mono HO244.out (fun _ hk => ⟨hk.1.1, ⟨hk.1.2, hk.2⟩⟩)), (by (with_reducible repeat (first | apply Kd.R_alloc | apply Kd.R_drewN | apply Kd.R_drew)); exact Kd.R_mono HO247.out (fun _ hk => ⟨hk.1.1.1, ⟨hk.1.1.2.1, ⟨hk.1.1.2.2.1, ⟨hk.1.1.2.2.2.1, ⟨hk.1.1.2.2.2.2, ⟨hk.1.2, hk.2⟩⟩⟩⟩⟩⟩)), (by (with_reducible repeat (first | apply Kd.R_alloc | apply Kd.R_drewN | apply Kd.R_drew)); exact Kd.R_mono HO250.out (fun _ hk => ⟨hk.1.1.1, ⟨hk.1.1.2.1, ⟨hk.1.1.2.2.1, ⟨hk.1.1.2.2.2.1, ⟨hk.1.1.2.2.2.2, ⟨hk.1.2, hk.2⟩⟩⟩⟩⟩⟩)), (by (with_reducible repeat (first | apply Kd.R_alloc | apply Kd.R_drewN | apply Kd.R_drew)); exact Kd.R_mono HO257.out (fun _ hk => ⟨hk.1.1, ⟨hk.1.2, hk.2⟩⟩)), (by (with_reducible repeat (first | apply Kd.R_alloc | apply Kd.R_drewN | apply Kd.R_drew)); exact Kd.R_mono HO260.out (fun _ hk => ⟨hk.1.1.1, ⟨hk.1.1.2.1, ⟨hk.1.1.2.2.1, ⟨hk.1.1.2.2.2.1, ⟨hk.1.1.2.2.2.2, ⟨hk.1.2, hk.2⟩⟩⟩⟩⟩⟩)), (by (with_reducible repeat (first | apply Kd.R_alloc | apply Kd.R_drewN | apply Kd.R_drew)); exact Kd.R_mono HO263.out (fun _ hk => ⟨hk.1.1.1, ⟨hk.1.1.2.1, ⟨hk.1.1.2.2.1, ⟨hk.1.1.2.2.2.1, ⟨hk.1.1.2.2.2.2, ⟨hk.1.2, hk.2⟩⟩⟩⟩⟩⟩)), (by (with_reducible repeat (first | apply Kd.R_alloc | apply Kd.R_drewN | apply Kd.R_drew)); exact Kd.R_mono HO269.out (fun _ hk => ⟨hk.1.1, ⟨hk.1.2, hk.2⟩⟩)), (by (with_reducible repeat (first | apply Kd.R_alloc | apply Kd.R_drewN | apply Kd.R_drew)); exact Kd.R_mono HO272.out (fun _ hk => ⟨hk.1.1.1, ⟨hk.1.1.2.1, ⟨hk.1.1.2.2.1, ⟨hk.1.1.2.2.2.1, ⟨hk.1.1.2.2.2.2, ⟨hk.1.2, hk.2⟩⟩⟩⟩⟩⟩)), (by (with_reducible repeat (first | apply Kd.R_alloc | apply Kd.R_drewN | apply Kd.R_drew)); exact Kd.R_mono HO275.out (fun _ hk => ⟨hk.1.1.1, ⟨hk.1.1.2.1, ⟨hk.1.1.2.2.1, ⟨hk.1.1.2.2.2.1, ⟨hk.1.1.2.2.2.2, ⟨hk.1.2, hk.2⟩⟩⟩⟩⟩⟩)), (by (with_reducible repeat (first | apply Kd.R_alloc | apply Kd.R_drewN | apply Kd.R_drew)); exact Kd.R_mono HO283.out (fun _ hk => ⟨hk.1.1.2, ⟨hk.1.2, hk.2⟩⟩)), (by (with_reducible repeat (first | apply Kd.R_alloc | apply Kd.R_drewN | apply Kd.R_drew)); exact Kd.R_mono HO286.out (fun _ hk => ⟨hk.1.1.1.1.1.2, ⟨hk.1.1.1.1.2, ⟨hk.1.1.1.2, ⟨hk.1.1.2, ⟨hk.1.2, ⟨hk.2, hk.1.1.1.1.1.1⟩⟩⟩⟩⟩⟩)), (by (with_reducible repeat (first | apply Kd.R_alloc | apply Kd.R_drewN | apply Kd.R_drew)); exact Kd.R_mono HO289.out (fun _ hk => ⟨hk.1.1.1.1.1.2, ⟨hk.1.1.1.1.2, ⟨hk.1.1.1.2, ⟨hk.1.1.2, ⟨hk.1.2, ⟨hk.2, hk.1.1.1.1.1.1⟩⟩⟩⟩⟩⟩)), (bx BK239.out), (bx BK240.out), (bx BK266.out), (bx BK278.out), (bx BK292.out), GW292.out, GE292.out, NB239_292.out, NB292_239.out, NB240_292.out, NB292_240.out, NB266_292.out, NB292_266.out, NB278_292.out, NB292_278.out, (be w)⟩)
    ·
     skip
     refine box_step ?hg (N := 8) ?hd (cs := #[.slice none 0 0, .slice none 0 0, .slice none 0 0, .int .i64 0, .int .i64 0]) (t := 34) ?hr ?_; (case hd => rfl); (case hg => rfl); (case hr => first | (go_simp; done) | (go_simp; rfl))
     intro gb292 hg w50 hbox hb
     replace HO244 := As.mk (Kd.R_below (by (with_reducible repeat (first | apply Kd.R_alloc | apply Kd.R_drewN | apply Kd.R_drew)); exact HO244.out) hb)
     replace HO247 := As.mk (Kd.R_below (by (with_reducible repeat (first | apply Kd.R_alloc | apply Kd.R_drewN | apply Kd.R_drew)); exact HO247.out) hb)
     replace HO250 := As.mk (Kd.R_below (by (with_reducible repeat (first | apply Kd.R_alloc | apply Kd.R_drewN | apply Kd.R_drew)); exact HO250.out) hb)
     replace HO257 := As.mk (Kd.R_below (by (with_reducible repeat (first | apply Kd.R_alloc | apply Kd.R_drewN | apply Kd.R_drew)); exact HO257.out) hb)
     replace HO260 := As.mk (Kd.R_below (by (with_reducible repeat (first | apply Kd.R_alloc | apply Kd.R_drewN | apply Kd.R_drew)); exact HO260.out) hb)
     replace HO263 := As.mk (Kd.R_below (by (with_reducible repeat (first | apply Kd.R_alloc | apply Kd.R_drewN | apply Kd.R_drew)); exact HO263.out) hb)
     replace HO269 := As.mk (Kd.R_below (by (with_reducible repeat (first | apply Kd.R_alloc | apply Kd.R_drewN | apply Kd.R_drew)); exact HO269.out) hb)
     replace HO272 := As.mk (Kd.R_below (by (with_reducible repeat (first | apply Kd.R_alloc | apply Kd.R_drewN | apply Kd.R_drew)); exact HO272.out) hb)
     replace HO275 := As.mk (Kd.R_below (by (with_reducible repeat (first | apply Kd.R_alloc | apply Kd.R_drewN | apply Kd.R_drew)); exact HO275.out) hb)
     have BK292 := As.mk (hbox)
     have GW292 := As.mk (gs w hg)
     have GE292 := As.mk (gs w hg)
     replace HB := As.mk (below_step (be w) hb)
     have NB239_292 := As.mk (nl hg (bx BK239.out))
     have NB292_239 := As.mk (ng hg (bx BK239.out))
     replace BK239 := As.mk (blk_below (bx BK239.out) hb)
     have NB240_292 := As.mk (nl hg (bx BK240.out))
     have NB292_240 := As.mk (ng hg (bx BK240.out))
     replace BK240 := As.mk (blk_below (bx BK240.out) hb)
     have NB266_292 := As.mk (nl hg (bx BK266.out))
     have NB292_266 := As.mk (ng hg (bx BK266.out))
     replace BK266 := As.mk (blk_below (bx BK266.out) hb)
     have NB278_292 := As.mk (nl hg (bx BK278.out))
     have NB292_278 := As.mk (ng hg (bx BK278.out))
     replace BK278 := As.mk (blk_below (bx BK278.out) hb)
     clear hb hbox hg
     refine hK.out _ _ ⟨(blk_cell BK278.out 0).trans rfl, (blk_cell BK278.out 1).trans rfl, (blk_cell BK278.out 2).trans rfl, (blk_cell BK278.out 3).trans rfl, (blk_cell BK278.out 4).trans rfl, (blk_cell BK240.out 0).trans rfl, (blk_cell BK240.out 1).trans rfl⟩ (fun hHeld => ?_)
     clear hK K
     refine norm_ (a' := ?_) ?_ ?_
     rotate_left
     ·
      show Act.put _ (some 8) _ = _
      simp only [pk, i64_w, i32_w]
      rfl
     refine one_ (i := 2) (N := some 27) #[I, I, I, O, I, O] rfl rfl (by kernel_rfl) (by decide) (fun K hK => ?_)
     refine goes_ Try.func26 (by kernel_rfl) rfl #[.agg #[.int .i64 a1_0, .int .i64 a1_1]] (by rfl) rfl rfl (by (try simp only [lm]); first | done | rfl | (simp only [List.length_drop, List.length_take]; rfl)) ?_
     with_reducible refine (laws_toValue.calls a1_0 a1_1 t279 t280 _ A15.out).mono ?_
     rintro e w51 ⟨rfl, hb⟩
     refine ⟨_, rfl, ?_⟩
     replace HO244 := As.mk (Kd.R_below (by (with_reducible repeat (first | apply Kd.R_alloc | apply Kd.R_drewN | apply Kd.R_drew)); exact HO244.out) hb)
     replace HO247 := As.mk (Kd.R_below (by (with_reducible repeat (first | apply Kd.R_alloc | apply Kd.R_drewN | apply Kd.R_drew)); exact HO247.out) hb)
     replace HO250 := As.mk (Kd.R_below (by (with_reducible repeat (first | apply Kd.R_alloc | apply Kd.R_drewN | apply Kd.R_drew)); exact HO250.out) hb)
     replace HO257 := As.mk (Kd.R_below (by (with_reducible repeat (first | apply Kd.R_alloc | apply Kd.R_drewN | apply Kd.R_drew)); exact HO257.out) hb)
     replace HO260 := As.mk (Kd.R_below (by (with_reducible repeat (first | apply Kd.R_alloc | apply Kd.R_drewN | apply Kd.R_drew)); exact HO260.out) hb)
     replace HO263 := As.mk (Kd.R_below (by (with_reducible repeat (first | apply Kd.R_alloc | apply Kd.R_drewN | apply Kd.R_drew)); exact HO263.out) hb)
     replace HO269 := As.mk (Kd.R_below (by (with_reducible repeat (first | apply Kd.R_alloc | apply Kd.R_drewN | apply Kd.R_drew)); exact HO269.out) hb)
     replace HO272 := As.mk (Kd.R_below (by (with_reducible repeat (first | apply Kd.R_alloc | apply Kd.R_drewN | apply Kd.R_drew)); exact HO272.out) hb)
     replace HO275 := As.mk (Kd.R_below (by (with_reducible repeat (first | apply Kd.R_alloc | apply Kd.R_drewN | apply Kd.R_drew)); exact HO275.out) hb)
     replace BK239 := As.mk (blk_below (bx BK239.out) hb)
     replace BK240 := As.mk (blk_below (bx BK240.out) hb)
     replace BK266 := As.mk (blk_below (bx BK266.out) hb)
     replace BK278 := As.mk (blk_below (bx BK278.out) hb)
     replace BK292 := As.mk (blk_below (bx BK292.out) hb)
     replace HB := As.mk (below_step (be w) hb)
     (try clear hb)
     (try clear hb2)
     (try clear hk)
     (try clear hi)
     refine hK.out _ _ ⟨(blk_cell BK278.out 0).trans rfl, (blk_cell BK278.out 1).trans rfl, (blk_cell BK278.out 2).trans rfl, (blk_cell BK278.out 3).trans rfl, (blk_cell BK278.out 4).trans rfl, (blk_cell BK240.out 0).trans rfl, (blk_cell BK240.out 1).trans rfl⟩ (fun hHeld => ?_)
     clear hK K
     refine norm_ (a' := ?_) ?_ ?_
     rotate_left
     ·
      show Act.put _ (some 27) _ = _
      simp only [pk, i64_w, i32_w]
      rfl
     refine one_ (i := 3) (N := some 28) #[I, I, I, I, I, O] rfl rfl (by kernel_rfl) (by decide) (fun K hK => ?_)
     refine goes_ Try.func22 (by kernel_rfl) rfl #[.agg #[.slice Ao41 t267.length co41, .slice Ao46 t270.length co46, .slice Ao47 t273.length co47, .int .i64 t276, .int .i64 t277], .agg #[.int .i64 t279, .int .i64 t280]] (by rfl) rfl rfl (by (try simp only [lm]); first | done | rfl | (simp only [List.length_drop, List.length_take]; rfl)) ?_
     with_reducible refine (impl_Freed.calls _ _ t267 _ _ t270 _ _ t273 t276 t277 t279 t280 t281 t284 t287 t290 t291 _ ?side1 ?side2 ?side3 ?side4 ?side5 ?side6 A16.out).mono ?_
     (case side1 => repeat (first | exact (Kd.R_reads' HO269.out).2.2 | (with_reducible refine Kd.C_alloc ?_ _) | (with_reducible refine Kd.C_drewN ?_ _) | (with_reducible refine Kd.C_drew ?_)))
     (case side2 => exact (Kd.R_reads' HO269.out).2.1)
     (case side3 => repeat (first | exact (Kd.R_reads' HO272.out).2.2 | (with_reducible refine Kd.C_alloc ?_ _) | (with_reducible refine Kd.C_drewN ?_ _) | (with_reducible refine Kd.C_drew ?_)))
     (case side4 => exact (Kd.R_reads' HO272.out).2.1)
     (case side5 => repeat (first | exact (Kd.R_reads' HO275.out).2.2 | (with_reducible refine Kd.C_alloc ?_ _) | (with_reducible refine Kd.C_drewN ?_ _) | (with_reducible refine Kd.C_drew ?_)))
     (case side6 => exact (Kd.R_reads' HO275.out).2.1)
     rintro e w52 ⟨v282, v285, v288, rfl, ho0, ho1, ho2, hb⟩
     refine ⟨_, rfl, ?_⟩
     have HO283 := As.mk (Kd.R_lower (Kd.R_new' (Kd.R_new' (Kd.R_new' ho0 (Kd.R_lt (by (with_reducible repeat (first | apply Kd.R_alloc | apply Kd.R_drewN | apply Kd.R_drew)); exact HO244.out))) (Kd.R_lt (by (with_reducible repeat (first | apply Kd.R_alloc | apply Kd.R_drewN | apply Kd.R_drew)); exact HO257.out))) (Kd.R_lt (by (with_reducible repeat (first | apply Kd.R_alloc | apply Kd.R_drewN | apply Kd.R_drew)); exact HO269.out))) (below_size (be w)))
     replace HO244 := As.mk (Kd.R_elder' (by (with_reducible repeat (first | apply Kd.R_alloc | apply Kd.R_drewN | apply Kd.R_drew)); exact HO244.out) (Kd.R_base ho0) hb)
     replace HO257 := As.mk (Kd.R_elder' (by (with_reducible repeat (first | apply Kd.R_alloc | apply Kd.R_drewN | apply Kd.R_drew)); exact HO257.out) (Kd.R_base ho0) hb)
     replace HO269 := As.mk (Kd.R_elder' (by (with_reducible repeat (first | apply Kd.R_alloc | apply Kd.R_drewN | apply Kd.R_drew)); exact HO269.out) (Kd.R_base ho0) hb)
     have HO286 := As.mk (Kd.R_lower (Kd.R_new' (Kd.R_new' (Kd.R_new' (Kd.R_new' (Kd.R_new' (Kd.R_new' ho1 (Kd.R_lt (by (with_reducible repeat (first | apply Kd.R_alloc | apply Kd.R_drewN | apply Kd.R_drew)); exact HO247.out))) (Kd.R_lt (by (with_reducible repeat (first | apply Kd.R_alloc | apply Kd.R_drewN | apply Kd.R_drew)); exact HO250.out))) (Kd.R_lt (by (with_reducible repeat (first | apply Kd.R_alloc | apply Kd.R_drewN | apply Kd.R_drew)); exact HO260.out))) (Kd.R_lt (by (with_reducible repeat (first | apply Kd.R_alloc | apply Kd.R_drewN | apply Kd.R_drew)); exact HO263.out))) (Kd.R_lt (by (with_reducible repeat (first | apply Kd.R_alloc | apply Kd.R_drewN | apply Kd.R_drew)); exact HO272.out))) (Kd.R_lt (by (with_reducible repeat (first | apply Kd.R_alloc | apply Kd.R_drewN | apply Kd.R_drew)); exact HO275.out))) (below_size (be w)))
     have HO289 := As.mk (Kd.R_lower (Kd.R_new' (Kd.R_new' (Kd.R_new' (Kd.R_new' (Kd.R_new' (Kd.R_new' ho2 (Kd.R_lt (by (with_reducible repeat (first | apply Kd.R_alloc | apply Kd.R_drewN | apply Kd.R_drew)); exact HO247.out))) (Kd.R_lt (by (with_reducible repeat (first | apply Kd.R_alloc | apply Kd.R_drewN | apply Kd.R_drew)); exact HO250.out))) (Kd.R_lt (by (with_reducible repeat (first | apply Kd.R_alloc | apply Kd.R_drewN | apply Kd.R_drew)); exact HO260.out))) (Kd.R_lt (by (with_reducible repeat (first | apply Kd.R_alloc | apply Kd.R_drewN | apply Kd.R_drew)); exact HO263.out))) (Kd.R_lt (by (with_reducible repeat (first | apply Kd.R_alloc | apply Kd.R_drewN | apply Kd.R_drew)); exact HO272.out))) (Kd.R_lt (by (with_reducible repeat (first | apply Kd.R_alloc | apply Kd.R_drewN | apply Kd.R_drew)); exact HO275.out))) (below_size (be w)))
     replace HO247 := As.mk (Kd.R_mono (Kd.R_told (Kd.R_told (Kd.R_old (by (with_reducible repeat (first | apply Kd.R_alloc | apply Kd.R_drewN | apply Kd.R_drew)); exact HO247.out) hb) (Kd.R_base ho1)) (Kd.R_base ho2)) (fun _ h_ => h_.1))
     replace HO250 := As.mk (Kd.R_mono (Kd.R_told (Kd.R_told (Kd.R_old (by (with_reducible repeat (first | apply Kd.R_alloc | apply Kd.R_drewN | apply Kd.R_drew)); exact HO250.out) hb) (Kd.R_base ho1)) (Kd.R_base ho2)) (fun _ h_ => h_.1))
     replace HO260 := As.mk (Kd.R_mono (Kd.R_told (Kd.R_told (Kd.R_old (by (with_reducible repeat (first | apply Kd.R_alloc | apply Kd.R_drewN | apply Kd.R_drew)); exact HO260.out) hb) (Kd.R_base ho1)) (Kd.R_base ho2)) (fun _ h_ => h_.1))
     replace HO263 := As.mk (Kd.R_mono (Kd.R_told (Kd.R_told (Kd.R_old (by (with_reducible repeat (first | apply Kd.R_alloc | apply Kd.R_drewN | apply Kd.R_drew)); exact HO263.out) hb) (Kd.R_base ho1)) (Kd.R_base ho2)) (fun _ h_ => h_.1))
     replace HO272 := As.mk (Kd.R_mono (Kd.R_told (Kd.R_told (Kd.R_old (by (with_reducible repeat (first | apply Kd.R_alloc | apply Kd.R_drewN | apply Kd.R_drew)); exact HO272.out) hb) (Kd.R_base ho1)) (Kd.R_base ho2)) (fun _ h_ => h_.1))
     replace HO275 := As.mk (Kd.R_mono (Kd.R_told (Kd.R_told (Kd.R_old (by (with_reducible repeat (first | apply Kd.R_alloc | apply Kd.R_drewN | apply Kd.R_drew)); exact HO275.out) hb) (Kd.R_base ho1)) (Kd.R_base ho2)) (fun _ h_ => h_.1))
     replace BK239 := As.mk (blk_below (bx BK239.out) hb)
     replace BK240 := As.mk (blk_below (bx BK240.out) hb)
     replace BK266 := As.mk (blk_below (bx BK266.out) hb)
     replace BK278 := As.mk (blk_below (bx BK278.out) hb)
     replace BK292 := As.mk (blk_below (bx BK292.out) hb)
     replace HB := As.mk (below_step (be w) hb)
     (try clear hb)
     (try clear hb2)
     (try clear hk)
     (try clear hi)
     (try clear ho0)
     (try clear ho1)
     (try clear ho2)
     refine hK.out _ _ ⟨(blk_cell BK278.out 0).trans rfl, (blk_cell BK278.out 1).trans rfl, (blk_cell BK278.out 2).trans rfl, (blk_cell BK278.out 3).trans rfl, (blk_cell BK278.out 4).trans rfl, (blk_cell BK240.out 0).trans rfl, (blk_cell BK240.out 1).trans rfl⟩ (fun hHeld => ?_)
     clear hK K
     refine norm_ (a' := ?_) ?_ ?_
     rotate_left
     ·
      show Act.put _ (some 28) _ = _
      simp only [pk, i64_w, i32_w]
      rfl
     exact norm_ (by simp only [putAll, Act.put, List.setIfInBounds_toArray, List.set_cons_zero, List.set_cons_succ]) (hCont (v282, v285, v288, gb292) _ ⟨hHeld, (by (with_reducible repeat (first | apply Kd.R_alloc | apply Kd.R_drewN | apply Kd.R_drew)); exact Kd.R_mono HO244.out (fun _ hk => ⟨hk.1.1, ⟨hk.1.2, hk.2⟩⟩)), (by (with_reducible repeat (first | apply Kd.R_alloc | apply Kd.R_drewN | apply Kd.R_drew)); exact Kd.R_mono HO247.out (fun _ hk => ⟨hk.1.1.1, ⟨hk.1.1.2.1, ⟨hk.1.1.2.2.1, ⟨hk.1.1.2.2.2.1, ⟨hk.1.1.2.2.2.2, ⟨hk.1.2, hk.2⟩⟩⟩⟩⟩⟩)), (by (with_reducible repeat (first | apply Kd.R_alloc | apply Kd.R_drewN | apply Kd.R_drew)); exact Kd.R_mono HO250.out (fun _ hk => ⟨hk.1.1.1, ⟨hk.1.1.2.1, ⟨hk.1.1.2.2.1, ⟨hk.1.1.2.2.2.1, ⟨hk.1.1.2.2.2.2, ⟨hk.1.2, hk.2⟩⟩⟩⟩⟩⟩)), (by (with_reducible repeat (first | apply Kd.R_alloc | apply Kd.R_drewN | apply Kd.R_drew)); exact Kd.R_mono HO257.out (fun _ hk => ⟨hk.1.1, ⟨hk.1.2, hk.2⟩⟩)), (by (with_reducible repeat (first | apply Kd.R_alloc | apply Kd.R_drewN | apply Kd.R_drew)); exact Kd.R_mono HO260.out (fun _ hk => ⟨hk.1.1.1, ⟨hk.1.1.2.1, ⟨hk.1.1.2.2.1, ⟨hk.1.1.2.2.2.1, ⟨hk.1.1.2.2.2.2, ⟨hk.1.2, hk.2⟩⟩⟩⟩⟩⟩)), (by (with_reducible repeat (first | apply Kd.R_alloc | apply Kd.R_drewN | apply Kd.R_drew)); exact Kd.R_mono HO263.out (fun _ hk => ⟨hk.1.1.1, ⟨hk.1.1.2.1, ⟨hk.1.1.2.2.1, ⟨hk.1.1.2.2.2.1, ⟨hk.1.1.2.2.2.2, ⟨hk.1.2, hk.2⟩⟩⟩⟩⟩⟩)), (by (with_reducible repeat (first | apply Kd.R_alloc | apply Kd.R_drewN | apply Kd.R_drew)); exact Kd.R_mono HO269.out (fun _ hk => ⟨hk.1.1, ⟨hk.1.2, hk.2⟩⟩)), (by (with_reducible repeat (first | apply Kd.R_alloc | apply Kd.R_drewN | apply Kd.R_drew)); exact Kd.R_mono HO272.out (fun _ hk => ⟨hk.1.1.1, ⟨hk.1.1.2.1, ⟨hk.1.1.2.2.1, ⟨hk.1.1.2.2.2.1, ⟨hk.1.1.2.2.2.2, ⟨hk.1.2, hk.2⟩⟩⟩⟩⟩⟩)), (by (with_reducible repeat (first | apply Kd.R_alloc | apply Kd.R_drewN | apply Kd.R_drew)); exact Kd.R_mono HO275.out (fun _ hk => ⟨hk.1.1.1, ⟨hk.1.1.2.1, ⟨hk.1.1.2.2.1, ⟨hk.1.1.2.2.2.1, ⟨hk.1.1.2.2.2.2, ⟨hk.1.2, hk.2⟩⟩⟩⟩⟩⟩)), (by (with_reducible repeat (first | apply Kd.R_alloc | apply Kd.R_drewN | apply Kd.R_drew)); exact Kd.R_mono HO283.out (fun _ hk => ⟨hk.1.1.2, ⟨hk.1.2, hk.2⟩⟩)), (by (with_reducible repeat (first | apply Kd.R_alloc | apply Kd.R_drewN | apply Kd.R_drew)); exact Kd.R_mono HO286.out (fun _ hk => ⟨hk.1.1.1.1.1.2, ⟨hk.1.1.1.1.2, ⟨hk.1.1.1.2, ⟨hk.1.1.2, ⟨hk.1.2, ⟨hk.2, hk.1.1.1.1.1.1⟩⟩⟩⟩⟩⟩)), (by (with_reducible repeat (first | apply Kd.R_alloc | apply Kd.R_drewN | apply Kd.R_drew)); exact Kd.R_mono HO289.out (fun _ hk => ⟨hk.1.1.1.1.1.2, ⟨hk.1.1.1.1.2, ⟨hk.1.1.1.2, ⟨hk.1.1.2, ⟨hk.1.2, ⟨hk.2, hk.1.1.1.1.1.1⟩⟩⟩⟩⟩⟩)), (bx BK239.out), (bx BK240.out), (bx BK266.out), (bx BK278.out), (bx BK292.out), GW292.out, GE292.out, NB239_292.out, NB292_239.out, NB240_292.out, NB292_240.out, NB266_292.out, NB292_266.out, NB278_292.out, NB292_278.out, (be w)⟩)
   rintro ⟨v282, v285, v288, gb292⟩ w53 ⟨hS_, h0_, h1_, h2_, h3_, h4_, h5_, h6_, h7_, h8_, h9_, h10_, h11_, h12_, h13_, h14_, h15_, h16_, h17_, h18_, h19_, h20_, h21_, h22_, h23_, h24_, h25_, h26_, h27_⟩
   have n0_ : As (Kd.R k93 93 w53 w.heap.size (fun k_ => some k_ ≠ (.slice Ao28 t255.length co28 : Value).ownBlock ∧ some k_ ≠ (.slice Ao41 t267.length co41 : Value).ownBlock ∧ some k_ ≠ (v282 : Value).ownBlock) v243 t242) := ⟨h0_⟩
   have n1_ : As (Kd.R (Kd.int .i64) 3 w53 w.heap.size (fun k_ => some k_ ≠ (v249 : Value).ownBlock ∧ some k_ ≠ (.slice Ao30 t258.length co30 : Value).ownBlock ∧ some k_ ≠ (.slice Ao32 t261.length co32 : Value).ownBlock ∧ some k_ ≠ (.slice Ao46 t270.length co46 : Value).ownBlock ∧ some k_ ≠ (.slice Ao47 t273.length co47 : Value).ownBlock ∧ some k_ ≠ (v285 : Value).ownBlock ∧ some k_ ≠ (v288 : Value).ownBlock) v246 t245) := ⟨h1_⟩
   have n2_ : As (Kd.R (Kd.int .i64) 3 w53 w.heap.size (fun k_ => some k_ ≠ (v246 : Value).ownBlock ∧ some k_ ≠ (.slice Ao30 t258.length co30 : Value).ownBlock ∧ some k_ ≠ (.slice Ao32 t261.length co32 : Value).ownBlock ∧ some k_ ≠ (.slice Ao46 t270.length co46 : Value).ownBlock ∧ some k_ ≠ (.slice Ao47 t273.length co47 : Value).ownBlock ∧ some k_ ≠ (v285 : Value).ownBlock ∧ some k_ ≠ (v288 : Value).ownBlock) v249 t248) := ⟨h2_⟩
   have n3_ : As (Kd.R k93 93 w53 w.heap.size (fun k_ => some k_ ≠ (v243 : Value).ownBlock ∧ some k_ ≠ (.slice Ao41 t267.length co41 : Value).ownBlock ∧ some k_ ≠ (v282 : Value).ownBlock) (.slice Ao28 t255.length co28) t255) := ⟨h3_⟩
   have n4_ : As (Kd.R (Kd.int .i64) 3 w53 w.heap.size (fun k_ => some k_ ≠ (v246 : Value).ownBlock ∧ some k_ ≠ (v249 : Value).ownBlock ∧ some k_ ≠ (.slice Ao32 t261.length co32 : Value).ownBlock ∧ some k_ ≠ (.slice Ao46 t270.length co46 : Value).ownBlock ∧ some k_ ≠ (.slice Ao47 t273.length co47 : Value).ownBlock ∧ some k_ ≠ (v285 : Value).ownBlock ∧ some k_ ≠ (v288 : Value).ownBlock) (.slice Ao30 t258.length co30) t258) := ⟨h4_⟩
   have n5_ : As (Kd.R (Kd.int .i64) 3 w53 w.heap.size (fun k_ => some k_ ≠ (v246 : Value).ownBlock ∧ some k_ ≠ (v249 : Value).ownBlock ∧ some k_ ≠ (.slice Ao30 t258.length co30 : Value).ownBlock ∧ some k_ ≠ (.slice Ao46 t270.length co46 : Value).ownBlock ∧ some k_ ≠ (.slice Ao47 t273.length co47 : Value).ownBlock ∧ some k_ ≠ (v285 : Value).ownBlock ∧ some k_ ≠ (v288 : Value).ownBlock) (.slice Ao32 t261.length co32) t261) := ⟨h5_⟩
   have n6_ : As (Kd.R k93 93 w53 w.heap.size (fun k_ => some k_ ≠ (v243 : Value).ownBlock ∧ some k_ ≠ (.slice Ao28 t255.length co28 : Value).ownBlock ∧ some k_ ≠ (v282 : Value).ownBlock) (.slice Ao41 t267.length co41) t267) := ⟨h6_⟩
   have n7_ : As (Kd.R (Kd.int .i64) 3 w53 w.heap.size (fun k_ => some k_ ≠ (v246 : Value).ownBlock ∧ some k_ ≠ (v249 : Value).ownBlock ∧ some k_ ≠ (.slice Ao30 t258.length co30 : Value).ownBlock ∧ some k_ ≠ (.slice Ao32 t261.length co32 : Value).ownBlock ∧ some k_ ≠ (.slice Ao47 t273.length co47 : Value).ownBlock ∧ some k_ ≠ (v285 : Value).ownBlock ∧ some k_ ≠ (v288 : Value).ownBlock) (.slice Ao46 t270.length co46) t270) := ⟨h7_⟩
   have n8_ : As (Kd.R (Kd.int .i64) 3 w53 w.heap.size (fun k_ => some k_ ≠ (v246 : Value).ownBlock ∧ some k_ ≠ (v249 : Value).ownBlock ∧ some k_ ≠ (.slice Ao30 t258.length co30 : Value).ownBlock ∧ some k_ ≠ (.slice Ao32 t261.length co32 : Value).ownBlock ∧ some k_ ≠ (.slice Ao46 t270.length co46 : Value).ownBlock ∧ some k_ ≠ (v285 : Value).ownBlock ∧ some k_ ≠ (v288 : Value).ownBlock) (.slice Ao47 t273.length co47) t273) := ⟨h8_⟩
   have n9_ : As (Kd.R k93 93 w53 w.heap.size (fun k_ => some k_ ≠ (v243 : Value).ownBlock ∧ some k_ ≠ (.slice Ao28 t255.length co28 : Value).ownBlock ∧ some k_ ≠ (.slice Ao41 t267.length co41 : Value).ownBlock) v282 t281) := ⟨h9_⟩
   have n10_ : As (Kd.R (Kd.int .i64) 3 w53 w.heap.size (fun k_ => some k_ ≠ (v246 : Value).ownBlock ∧ some k_ ≠ (v249 : Value).ownBlock ∧ some k_ ≠ (.slice Ao30 t258.length co30 : Value).ownBlock ∧ some k_ ≠ (.slice Ao32 t261.length co32 : Value).ownBlock ∧ some k_ ≠ (.slice Ao46 t270.length co46 : Value).ownBlock ∧ some k_ ≠ (.slice Ao47 t273.length co47 : Value).ownBlock ∧ some k_ ≠ (v288 : Value).ownBlock) v285 t284) := ⟨h10_⟩
   have n11_ : As (Kd.R (Kd.int .i64) 3 w53 w.heap.size (fun k_ => some k_ ≠ (v246 : Value).ownBlock ∧ some k_ ≠ (v249 : Value).ownBlock ∧ some k_ ≠ (.slice Ao30 t258.length co30 : Value).ownBlock ∧ some k_ ≠ (.slice Ao32 t261.length co32 : Value).ownBlock ∧ some k_ ≠ (.slice Ao46 t270.length co46 : Value).ownBlock ∧ some k_ ≠ (.slice Ao47 t273.length co47 : Value).ownBlock ∧ some k_ ≠ (v285 : Value).ownBlock) v288 t287) := ⟨h11_⟩
   have n12_ : As (w53.heap[gb239]? = some (.cells #[.slice A0_0 l0_0.length c0_0, .slice A0_1 l0_1.length c0_1, .slice A0_2 l0_2.length c0_2, .int .i64 a0_3, .int .i64 a0_4] 47 (0, 0))) := ⟨h12_⟩
   have n13_ : As (w53.heap[gb240]? = some (.cells #[.int .i64 a1_0, .int .i64 a1_1] 48 (0, 0))) := ⟨h13_⟩
   have n14_ : As (w53.heap[gb266]? = some (.cells #[.slice Ao28 t255.length co28, .slice Ao30 t258.length co30, .slice Ao32 t261.length co32, .int .i64 t264, .int .i64 t265] 34 (0, 0))) := ⟨h14_⟩
   have n15_ : As (w53.heap[gb278]? = some (.cells #[.slice Ao41 t267.length co41, .slice Ao46 t270.length co46, .slice Ao47 t273.length co47, .int .i64 t276, .int .i64 t277] 34 (0, 0))) := ⟨h15_⟩
   have n16_ : As (w53.heap[gb292]? = some (.cells #[.slice none 0 0, .slice none 0 0, .slice none 0 0, .int .i64 0, .int .i64 0] 34 (0, 0))) := ⟨h16_⟩
   have n17_ : As (w.heap.size ≤ gb292) := ⟨h17_⟩
   have n18_ : As (w.heap.size ≤ gb292) := ⟨h18_⟩
   have n19_ : As (gb239 ≠ gb292) := ⟨h19_⟩
   have n20_ : As (gb292 ≠ gb239) := ⟨h20_⟩
   have n21_ : As (gb240 ≠ gb292) := ⟨h21_⟩
   have n22_ : As (gb292 ≠ gb240) := ⟨h22_⟩
   have n23_ : As (gb266 ≠ gb292) := ⟨h23_⟩
   have n24_ : As (gb292 ≠ gb266) := ⟨h24_⟩
   have n25_ : As (gb278 ≠ gb292) := ⟨h25_⟩
   have n26_ : As (gb292 ≠ gb278) := ⟨h26_⟩
   have n27_ : As (Below w.heap.size w w53) := ⟨h27_⟩
   clear HO244
   clear HO247
   clear HO250
   clear HO257
   clear HO260
   clear HO263
   clear HO269
   clear HO272
   clear HO275
   clear BK239
   clear BK240
   clear BK266
   clear BK278
   clear HB
   clear h0_ h1_ h2_ h3_ h4_ h5_ h6_ h7_ h8_ h9_ h10_ h11_ h12_ h13_ h14_ h15_ h16_ h17_ h18_ h19_ h20_ h21_ h22_ h23_ h24_ h25_ h26_ h27_
   have HO244 := n0_
   have HO247 := n1_
   have HO250 := n2_
   have HO257 := n3_
   have HO260 := n4_
   have HO263 := n5_
   have HO269 := n6_
   have HO272 := n7_
   have HO275 := n8_
   have HO283 := n9_
   have HO286 := n10_
   have HO289 := n11_
   have BK239 := n12_
   have BK240 := n13_
   have BK266 := n14_
   have BK278 := n15_
   have BK292 := n16_
   have GW292 := n17_
   have GE292 := n18_
   have NB239_292 := n19_
   have NB292_239 := n20_
   have NB240_292 := n21_
   have NB292_240 := n22_
   have NB266_292 := n23_
   have NB292_266 := n24_
   have NB278_292 := n25_
   have NB292_278 := n26_
   have HB := n27_
   clear n0_ n1_ n2_ n3_ n4_ n5_ n6_ n7_ n8_ n9_ n10_ n11_ n12_ n13_ n14_ n15_ n16_ n17_ n18_ n19_ n20_ n21_ n22_ n23_ n24_ n25_ n26_ n27_
   have hHeld : w53.cell? ⟨gb278, 0, none⟩ = some (.slice Ao41 t267.length co41) ∧ w53.cell? ⟨gb278, 1, none⟩ = some (.slice Ao46 t270.length co46) ∧ w53.cell? ⟨gb278, 2, none⟩ = some (.slice Ao47 t273.length co47) ∧ w53.cell? ⟨gb278, 3, none⟩ = some (.int .i64 t276) ∧ w53.cell? ⟨gb278, 4, none⟩ = some (.int .i64 t277) ∧ w53.cell? ⟨gb240, 0, none⟩ = some (.int .i64 a1_0) ∧ w53.cell? ⟨gb240, 1, none⟩ = some (.int .i64 a1_1) := hS_
   obtain ⟨Ao54, co54, eo54⟩ := Kd.R_slice HO283.out
   (first | subst eo54 | (injection eo54 with f1_ f2_ f3_; have f4_ := f1_.symm; have f5_ := f3_.symm; clear f1_ f2_ f3_; subst f4_; subst f5_))
   obtain ⟨Ao56, co56, eo56⟩ := Kd.R_slice HO286.out
   (first | subst eo56 | (injection eo56 with f1_ f2_ f3_; have f4_ := f1_.symm; have f5_ := f3_.symm; clear f1_ f2_ f3_; subst f4_; subst f5_))
   obtain ⟨Ao58, co58, eo58⟩ := Kd.R_slice HO289.out
   (first | subst eo58 | (injection eo58 with f1_ f2_ f3_; have f4_ := f1_.symm; have f5_ := f3_.symm; clear f1_ f2_ f3_; subst f4_; subst f5_))
   refine norm_ (a' := ?_) ?_ ?_
   rotate_left
   ·
    simp only [putAll, Act.put, List.setIfInBounds_toArray, List.set_cons_zero, List.set_cons_succ]
    rfl
   refine one_ (i := 5) (N := none) #[I, I, I, I, I, I] rfl rfl (by kernel_rfl) (by decide) (fun K hK => ?_)
   have hs55 : w53.cell? ⟨gb292, 0, none⟩ = some (.slice none 0 0) := (blk_cell BK292.out 0).trans rfl
   have hfs55 := blk_frozen BK292.out 0
   have hns55_0 := NB239_292.out
   have hns55_1 := NB240_292.out
   have hns55_2 := NB266_292.out
   have hns55_3 := NB278_292.out
   have hms55_0 := NB292_239.out
   have hms55_1 := NB292_240.out
   have hms55_2 := NB292_266.out
   have hms55_3 := NB292_278.out
   have hs57 : w53.cell? ⟨gb292, 1, none⟩ = some (.slice none 0 0) := (blk_cell BK292.out 1).trans rfl
   have hfs57 := blk_frozen BK292.out 1
   have hns57_0 := NB239_292.out
   have hns57_1 := NB240_292.out
   have hns57_2 := NB266_292.out
   have hns57_3 := NB278_292.out
   have hms57_0 := NB292_239.out
   have hms57_1 := NB292_240.out
   have hms57_2 := NB292_266.out
   have hms57_3 := NB292_278.out
   have hs59 : w53.cell? ⟨gb292, 2, none⟩ = some (.slice none 0 0) := (blk_cell BK292.out 2).trans rfl
   have hfs59 := blk_frozen BK292.out 2
   have hns59_0 := NB239_292.out
   have hns59_1 := NB240_292.out
   have hns59_2 := NB266_292.out
   have hns59_3 := NB278_292.out
   have hms59_0 := NB292_239.out
   have hms59_1 := NB292_240.out
   have hms59_2 := NB292_266.out
   have hms59_3 := NB292_278.out
   have hs60 : w53.cell? ⟨gb292, 3, none⟩ = some (.int .i64 0) := (blk_cell BK292.out 3).trans rfl
   have hfs60 := blk_frozen BK292.out 3
   have hns60_0 := NB239_292.out
   have hns60_1 := NB240_292.out
   have hns60_2 := NB266_292.out
   have hns60_3 := NB278_292.out
   have hms60_0 := NB292_239.out
   have hms60_1 := NB292_240.out
   have hms60_2 := NB292_266.out
   have hms60_3 := NB292_278.out
   have hs61 : w53.cell? ⟨gb292, 4, none⟩ = some (.int .i64 0) := (blk_cell BK292.out 4).trans rfl
   have hfs61 := blk_frozen BK292.out 4
   have hns61_0 := NB239_292.out
   have hns61_1 := NB240_292.out
   have hns61_2 := NB266_292.out
   have hns61_3 := NB278_292.out
   have hms61_0 := NB292_239.out
   have hms61_1 := NB292_240.out
   have hms61_2 := NB292_266.out
   have hms61_3 := NB292_278.out
   refine skip_ (w1 := ?_) (by rfl) rfl ?_ ?_
   rotate_left
   ·
    go_simp
    rfl
   refine hK.out _ _ ⟨((cell_far (p := ⟨gb292, _, none⟩) NB278_292.out _).trans (((cell_far (p := ⟨gb292, _, none⟩) NB278_292.out _).trans (((cell_far (p := ⟨gb292, _, none⟩) NB278_292.out _).trans (((cell_far (p := ⟨gb292, _, none⟩) NB278_292.out _).trans (((cell_far (p := ⟨gb292, _, none⟩) NB278_292.out _).trans (hHeld.1)))))))))), ((cell_far (p := ⟨gb292, _, none⟩) NB278_292.out _).trans (((cell_far (p := ⟨gb292, _, none⟩) NB278_292.out _).trans (((cell_far (p := ⟨gb292, _, none⟩) NB278_292.out _).trans (((cell_far (p := ⟨gb292, _, none⟩) NB278_292.out _).trans (((cell_far (p := ⟨gb292, _, none⟩) NB278_292.out _).trans (hHeld.2.1)))))))))), ((cell_far (p := ⟨gb292, _, none⟩) NB278_292.out _).trans (((cell_far (p := ⟨gb292, _, none⟩) NB278_292.out _).trans (((cell_far (p := ⟨gb292, _, none⟩) NB278_292.out _).trans (((cell_far (p := ⟨gb292, _, none⟩) NB278_292.out _).trans (((cell_far (p := ⟨gb292, _, none⟩) NB278_292.out _).trans (hHeld.2.2.1)))))))))), ((cell_far (p := ⟨gb292, _, none⟩) NB278_292.out _).trans (((cell_far (p := ⟨gb292, _, none⟩) NB278_292.out _).trans (((cell_far (p := ⟨gb292, _, none⟩) NB278_292.out _).trans (((cell_far (p := ⟨gb292, _, none⟩) NB278_292.out _).trans (((cell_far (p := ⟨gb292, _, none⟩) NB278_292.out _).trans (hHeld.2.2.2.1)))))))))), ((cell_far (p := ⟨gb292, _, none⟩) NB278_292.out _).trans (((cell_far (p := ⟨gb292, _, none⟩) NB278_292.out _).trans (((cell_far (p := ⟨gb292, _, none⟩) NB278_292.out _).trans (((cell_far (p := ⟨gb292, _, none⟩) NB278_292.out _).trans (((cell_far (p := ⟨gb292, _, none⟩) NB278_292.out _).trans (hHeld.2.2.2.2.1)))))))))), ((cell_far (p := ⟨gb292, _, none⟩) NB240_292.out _).trans (((cell_far (p := ⟨gb292, _, none⟩) NB240_292.out _).trans (((cell_far (p := ⟨gb292, _, none⟩) NB240_292.out _).trans (((cell_far (p := ⟨gb292, _, none⟩) NB240_292.out _).trans (((cell_far (p := ⟨gb292, _, none⟩) NB240_292.out _).trans (hHeld.2.2.2.2.2.1)))))))))), ((cell_far (p := ⟨gb292, _, none⟩) NB240_292.out _).trans (((cell_far (p := ⟨gb292, _, none⟩) NB240_292.out _).trans (((cell_far (p := ⟨gb292, _, none⟩) NB240_292.out _).trans (((cell_far (p := ⟨gb292, _, none⟩) NB240_292.out _).trans (((cell_far (p := ⟨gb292, _, none⟩) NB240_292.out _).trans (hHeld.2.2.2.2.2.2))))))))))⟩ (fun hHeld => ?_)
   clear hK K
   refine done_ (by kernel_rfl) ?_
   have hnb62 := NB292_239.out
   have hnc62 := NB239_292.out
   have hnb63 := NB292_240.out
   have hnc63 := NB240_292.out
   have hnb64 := NB292_266.out
   have hnc64 := NB266_292.out
   have hnb65 := NB292_278.out
   have hnc65 := NB278_292.out
   obtain ⟨hcz66_0, hcz66_1, hcz66_2, hcz66_3, hcz66_4, hfz66_0, hfz66_1, hfz66_2, hfz66_3, hfz66_4⟩ := cl5 BK292.out
   have hnb67 := NB266_240.out
   have hnc67 := NB240_266.out
   obtain ⟨hcz68_0, hcz68_1, hcz68_2, hcz68_3, hcz68_4, hfz68_0, hfz68_1, hfz68_2, hfz68_3, hfz68_4⟩ := cl5 BK266.out
   go_upto_if 32 with (first | ((with_reducible refine gate_callee (f := 27) rfl ?_); refine goesL_ (some 31) rfl rfl Try.func27 (by kernel_rfl) rfl #[.agg #[.slice Ao54 t281.length co54, .slice Ao56 t284.length co56, .slice Ao58 t287.length co58, .int .i64 t290, .int .i64 t291], .agg #[.slice Ao28 t255.length co28, .slice Ao30 t258.length co30, .slice Ao32 t261.length co32, .int .i64 t264, .int .i64 t265]] rfl (by (try simp only [lm]); first | done | rfl | (simp only [List.length_drop, List.length_take]; rfl)) ?_; (with_reducible refine (laws_eqMemory.calls kj3 _ _ t281 _ _ t284 _ _ t287 t290 t291 _ _ t255 _ _ t258 _ _ t261 t264 t265 t293 _ ?side1 ?side2 ?side3 ?side4 ?side5 ?side6 ?side7 ?side8 ?side9 ?side10 ?side11 ?side12 A17.out).mono ?_); (case side1 => refine (Kd.R_reads' (e := 93) (base := w.heap.size) (ok := fun k_ => (some k_ ≠ (v243 : Value).ownBlock ∧ (some k_ ≠ (.slice Ao28 t255.length co28 : Value).ownBlock ∧ some k_ ≠ (.slice Ao41 t267.length co41 : Value).ownBlock))) (n := t281.length) (c := co54) ?_).2.2; exact (by (with_reducible repeat (first | apply Kd.R_alloc | apply Kd.R_drewN | apply Kd.R_drew)); exact (Kd.R_mono (Kd.R_far (p := ⟨gb292, 4, none⟩) (Kd.R_far (p := ⟨gb292, 3, none⟩) (Kd.R_far (p := ⟨gb292, 2, none⟩) (Kd.R_far (p := ⟨gb292, 1, none⟩) (Kd.R_far (p := ⟨gb292, 0, none⟩) (Kd.R_types HO283.out BK292.out (by decide)) (fun _ hk => hk.2) (.slice Ao54 t281.length co54)) (fun _ hk => hk.2) (.slice Ao56 t284.length co56)) (fun _ hk => hk.2) (.slice Ao58 t287.length co58)) (fun _ hk => hk.2) (.int .i64 t290)) (fun _ hk => hk.2) (.int .i64 t291)) (fun _ h_ => h_.1)))); (case side2 => exact (Kd.R_reads' HO283.out).2.1); (case side3 => refine (Kd.R_reads' (e := 3) (base := w.heap.size) (ok := fun k_ => (some k_ ≠ (v246 : Value).ownBlock ∧ (some k_ ≠ (v249 : Value).ownBlock ∧ (some k_ ≠ (.slice Ao30 t258.length co30 : Value).ownBlock ∧ (some k_ ≠ (.slice Ao32 t261.length co32 : Value).ownBlock ∧ (some k_ ≠ (.slice Ao46 t270.length co46 : Value).ownBlock ∧ (some k_ ≠ (.slice Ao47 t273.length co47 : Value).ownBlock ∧ some k_ ≠ (.slice Ao58 t287.length co58 : Value).ownBlock))))))) (n := t284.length) (c := co56) ?_).2.2; exact (by (with_reducible repeat (first | apply Kd.R_alloc | apply Kd.R_drewN | apply Kd.R_drew)); exact (Kd.R_mono (Kd.R_far (p := ⟨gb292, 4, none⟩) (Kd.R_far (p := ⟨gb292, 3, none⟩) (Kd.R_far (p := ⟨gb292, 2, none⟩) (Kd.R_far (p := ⟨gb292, 1, none⟩) (Kd.R_far (p := ⟨gb292, 0, none⟩) (Kd.R_types HO286.out BK292.out (by decide)) (fun _ hk => hk.2) (.slice Ao54 t281.length co54)) (fun _ hk => hk.2) (.slice Ao56 t284.length co56)) (fun _ hk => hk.2) (.slice Ao58 t287.length co58)) (fun _ hk => hk.2) (.int .i64 t290)) (fun _ hk => hk.2) (.int .i64 t291)) (fun _ h_ => h_.1)))); (case side4 => exact (Kd.R_reads' HO286.out).2.1); (case side5 => refine (Kd.R_reads' (e := 3) (base := w.heap.size) (ok := fun k_ => (some k_ ≠ (v246 : Value).ownBlock ∧ (some k_ ≠ (v249 : Value).ownBlock ∧ (some k_ ≠ (.slice Ao30 t258.length co30 : Value).ownBlock ∧ (some k_ ≠ (.slice Ao32 t261.length co32 : Value).ownBlock ∧ (some k_ ≠ (.slice Ao46 t270.length co46 : Value).ownBlock ∧ (some k_ ≠ (.slice Ao47 t273.length co47 : Value).ownBlock ∧ some k_ ≠ (.slice Ao56 t284.length co56 : Value).ownBlock))))))) (n := t287.length) (c := co58) ?_).2.2; exact (by (with_reducible repeat (first | apply Kd.R_alloc | apply Kd.R_drewN | apply Kd.R_drew)); exact (Kd.R_mono (Kd.R_far (p := ⟨gb292, 4, none⟩) (Kd.R_far (p := ⟨gb292, 3, none⟩) (Kd.R_far (p := ⟨gb292, 2, none⟩) (Kd.R_far (p := ⟨gb292, 1, none⟩) (Kd.R_far (p := ⟨gb292, 0, none⟩) (Kd.R_types HO289.out BK292.out (by decide)) (fun _ hk => hk.2) (.slice Ao54 t281.length co54)) (fun _ hk => hk.2) (.slice Ao56 t284.length co56)) (fun _ hk => hk.2) (.slice Ao58 t287.length co58)) (fun _ hk => hk.2) (.int .i64 t290)) (fun _ hk => hk.2) (.int .i64 t291)) (fun _ h_ => h_.1)))); (case side6 => exact (Kd.R_reads' HO289.out).2.1); (case side7 => refine (Kd.R_reads' (e := 93) (base := w.heap.size) (ok := fun k_ => (some k_ ≠ (v243 : Value).ownBlock ∧ (some k_ ≠ (.slice Ao41 t267.length co41 : Value).ownBlock ∧ some k_ ≠ (.slice Ao54 t281.length co54 : Value).ownBlock))) (n := t255.length) (c := co28) ?_).2.2; exact (by (with_reducible repeat (first | apply Kd.R_alloc | apply Kd.R_drewN | apply Kd.R_drew)); exact (Kd.R_mono (Kd.R_far (p := ⟨gb292, 4, none⟩) (Kd.R_far (p := ⟨gb292, 3, none⟩) (Kd.R_far (p := ⟨gb292, 2, none⟩) (Kd.R_far (p := ⟨gb292, 1, none⟩) (Kd.R_far (p := ⟨gb292, 0, none⟩) (Kd.R_types HO257.out BK292.out (by decide)) (fun _ hk => hk.2) (.slice Ao54 t281.length co54)) (fun _ hk => hk.2) (.slice Ao56 t284.length co56)) (fun _ hk => hk.2) (.slice Ao58 t287.length co58)) (fun _ hk => hk.2) (.int .i64 t290)) (fun _ hk => hk.2) (.int .i64 t291)) (fun _ h_ => h_.1)))); (case side8 => exact (Kd.R_reads' HO257.out).2.1); (case side9 => refine (Kd.R_reads' (e := 3) (base := w.heap.size) (ok := fun k_ => (some k_ ≠ (v246 : Value).ownBlock ∧ (some k_ ≠ (v249 : Value).ownBlock ∧ (some k_ ≠ (.slice Ao32 t261.length co32 : Value).ownBlock ∧ (some k_ ≠ (.slice Ao46 t270.length co46 : Value).ownBlock ∧ (some k_ ≠ (.slice Ao47 t273.length co47 : Value).ownBlock ∧ (some k_ ≠ (.slice Ao56 t284.length co56 : Value).ownBlock ∧ some k_ ≠ (.slice Ao58 t287.length co58 : Value).ownBlock))))))) (n := t258.length) (c := co30) ?_).2.2; exact (by (with_reducible repeat (first | apply Kd.R_alloc | apply Kd.R_drewN | apply Kd.R_drew)); exact (Kd.R_mono (Kd.R_far (p := ⟨gb292, 4, none⟩) (Kd.R_far (p := ⟨gb292, 3, none⟩) (Kd.R_far (p := ⟨gb292, 2, none⟩) (Kd.R_far (p := ⟨gb292, 1, none⟩) (Kd.R_far (p := ⟨gb292, 0, none⟩) (Kd.R_types HO260.out BK292.out (by decide)) (fun _ hk => hk.2) (.slice Ao54 t281.length co54)) (fun _ hk => hk.2) (.slice Ao56 t284.length co56)) (fun _ hk => hk.2) (.slice Ao58 t287.length co58)) (fun _ hk => hk.2) (.int .i64 t290)) (fun _ hk => hk.2) (.int .i64 t291)) (fun _ h_ => h_.1)))); (case side10 => exact (Kd.R_reads' HO260.out).2.1); (case side11 => refine (Kd.R_reads' (e := 3) (base := w.heap.size) (ok := fun k_ => (some k_ ≠ (v246 : Value).ownBlock ∧ (some k_ ≠ (v249 : Value).ownBlock ∧ (some k_ ≠ (.slice Ao30 t258.length co30 : Value).ownBlock ∧ (some k_ ≠ (.slice Ao46 t270.length co46 : Value).ownBlock ∧ (some k_ ≠ (.slice Ao47 t273.length co47 : Value).ownBlock ∧ (some k_ ≠ (.slice Ao56 t284.length co56 : Value).ownBlock ∧ some k_ ≠ (.slice Ao58 t287.length co58 : Value).ownBlock))))))) (n := t261.length) (c := co32) ?_).2.2; exact (by (with_reducible repeat (first | apply Kd.R_alloc | apply Kd.R_drewN | apply Kd.R_drew)); exact (Kd.R_mono (Kd.R_far (p := ⟨gb292, 4, none⟩) (Kd.R_far (p := ⟨gb292, 3, none⟩) (Kd.R_far (p := ⟨gb292, 2, none⟩) (Kd.R_far (p := ⟨gb292, 1, none⟩) (Kd.R_far (p := ⟨gb292, 0, none⟩) (Kd.R_types HO263.out BK292.out (by decide)) (fun _ hk => hk.2) (.slice Ao54 t281.length co54)) (fun _ hk => hk.2) (.slice Ao56 t284.length co56)) (fun _ hk => hk.2) (.slice Ao58 t287.length co58)) (fun _ hk => hk.2) (.int .i64 t290)) (fun _ hk => hk.2) (.int .i64 t291)) (fun _ h_ => h_.1)))); (case side12 => exact (Kd.R_reads' HO263.out).2.1); rintro e w69 ⟨rfl, hb⟩; refine ⟨_, rfl, ?_⟩; replace HO244 := As.mk (Kd.R_below (by (with_reducible repeat (first | apply Kd.R_alloc | apply Kd.R_drewN | apply Kd.R_drew)); exact (Kd.R_mono (Kd.R_far (p := ⟨gb292, 4, none⟩) (Kd.R_far (p := ⟨gb292, 3, none⟩) (Kd.R_far (p := ⟨gb292, 2, none⟩) (Kd.R_far (p := ⟨gb292, 1, none⟩) (Kd.R_far (p := ⟨gb292, 0, none⟩) (Kd.R_types HO244.out BK292.out (by decide)) (fun _ hk => hk.2) (.slice Ao54 t281.length co54)) (fun _ hk => hk.2) (.slice Ao56 t284.length co56)) (fun _ hk => hk.2) (.slice Ao58 t287.length co58)) (fun _ hk => hk.2) (.int .i64 t290)) (fun _ hk => hk.2) (.int .i64 t291)) (fun _ h_ => h_.1))) hb); replace HO247 := As.mk (Kd.R_below (by (with_reducible repeat (first | apply Kd.R_alloc | apply Kd.R_drewN | apply Kd.R_drew)); exact (Kd.R_mono (Kd.R_far (p := ⟨gb292, 4, none⟩) (Kd.R_far (p := ⟨gb292, 3, none⟩) (Kd.R_far (p := ⟨gb292, 2, none⟩) (Kd.R_far (p := ⟨gb292, 1, none⟩) (Kd.R_far (p := ⟨gb292, 0, none⟩) (Kd.R_types HO247.out BK292.out (by decide)) (fun _ hk => hk.2) (.slice Ao54 t281.length co54)) (fun _ hk => hk.2) (.slice Ao56 t284.length co56)) (fun _ hk => hk.2) (.slice Ao58 t287.length co58)) (fun _ hk => hk.2) (.int .i64 t290)) (fun _ hk => hk.2) (.int .i64 t291)) (fun _ h_ => h_.1))) hb); replace HO250 := As.mk (Kd.R_below (by (with_reducible repeat (first | apply Kd.R_alloc | apply Kd.R_drewN | apply Kd.R_drew)); exact (Kd.R_mono (Kd.R_far (p := ⟨gb292, 4, none⟩) (Kd.R_far (p := ⟨gb292, 3, none⟩) (Kd.R_far (p := ⟨gb292, 2, none⟩) (Kd.R_far (p := ⟨gb292, 1, none⟩) (Kd.R_far (p := ⟨gb292, 0, none⟩) (Kd.R_types HO250.out BK292.out (by decide)) (fun _ hk => hk.2) (.slice Ao54 t281.length co54)) (fun _ hk => hk.2) (.slice Ao56 t284.length co56)) (fun _ hk => hk.2) (.slice Ao58 t287.length co58)) (fun _ hk => hk.2) (.int .i64 t290)) (fun _ hk => hk.2) (.int .i64 t291)) (fun _ h_ => h_.1))) hb); replace HO257 := As.mk (Kd.R_below (by (with_reducible repeat (first | apply Kd.R_alloc | apply Kd.R_drewN | apply Kd.R_drew)); exact (Kd.R_mono (Kd.R_far (p := ⟨gb292, 4, none⟩) (Kd.R_far (p := ⟨gb292, 3, none⟩) (Kd.R_far (p := ⟨gb292, 2, none⟩) (Kd.R_far (p := ⟨gb292, 1, none⟩) (Kd.R_far (p := ⟨gb292, 0, none⟩) (Kd.R_types HO257.out BK292.out (by decide)) (fun _ hk => hk.2) (.slice Ao54 t281.length co54)) (fun _ hk => hk.2) (.slice Ao56 t284.length co56)) (fun _ hk => hk.2) (.slice Ao58 t287.length co58)) (fun _ hk => hk.2) (.int .i64 t290)) (fun _ hk => hk.2) (.int .i64 t291)) (fun _ h_ => h_.1))) hb); replace HO260 := As.mk (Kd.R_below (by (with_reducible repeat (first | apply Kd.R_alloc | apply Kd.R_drewN | apply Kd.R_drew)); exact (Kd.R_mono (Kd.R_far (p := ⟨gb292, 4, none⟩) (Kd.R_far (p := ⟨gb292, 3, none⟩) (Kd.R_far (p := ⟨gb292, 2, none⟩) (Kd.R_far (p := ⟨gb292, 1, none⟩) (Kd.R_far (p := ⟨gb292, 0, none⟩) (Kd.R_types HO260.out BK292.out (by decide)) (fun _ hk => hk.2) (.slice Ao54 t281.length co54)) (fun _ hk => hk.2) (.slice Ao56 t284.length co56)) (fun _ hk => hk.2) (.slice Ao58 t287.length co58)) (fun _ hk => hk.2) (.int .i64 t290)) (fun _ hk => hk.2) (.int .i64 t291)) (fun _ h_ => h_.1))) hb); replace HO263 := As.mk (Kd.R_below (by (with_reducible repeat (first | apply Kd.R_alloc | apply Kd.R_drewN | apply Kd.R_drew)); exact (Kd.R_mono (Kd.R_far (p := ⟨gb292, 4, none⟩) (Kd.R_far (p := ⟨gb292, 3, none⟩) (Kd.R_far (p := ⟨gb292, 2, none⟩) (Kd.R_far (p := ⟨gb292, 1, none⟩) (Kd.R_far (p := ⟨gb292, 0, none⟩) (Kd.R_types HO263.out BK292.out (by decide)) (fun _ hk => hk.2) (.slice Ao54 t281.length co54)) (fun _ hk => hk.2) (.slice Ao56 t284.length co56)) (fun _ hk => hk.2) (.slice Ao58 t287.length co58)) (fun _ hk => hk.2) (.int .i64 t290)) (fun _ hk => hk.2) (.int .i64 t291)) (fun _ h_ => h_.1))) hb); replace HO269 := As.mk (Kd.R_below (by (with_reducible repeat (first | apply Kd.R_alloc | apply Kd.R_drewN | apply Kd.R_drew)); exact (Kd.R_mono (Kd.R_far (p := ⟨gb292, 4, none⟩) (Kd.R_far (p := ⟨gb292, 3, none⟩) (Kd.R_far (p := ⟨gb292, 2, none⟩) (Kd.R_far (p := ⟨gb292, 1, none⟩) (Kd.R_far (p := ⟨gb292, 0, none⟩) (Kd.R_types HO269.out BK292.out (by decide)) (fun _ hk => hk.2) (.slice Ao54 t281.length co54)) (fun _ hk => hk.2) (.slice Ao56 t284.length co56)) (fun _ hk => hk.2) (.slice Ao58 t287.length co58)) (fun _ hk => hk.2) (.int .i64 t290)) (fun _ hk => hk.2) (.int .i64 t291)) (fun _ h_ => h_.1))) hb); replace HO272 := As.mk (Kd.R_below (by (with_reducible repeat (first | apply Kd.R_alloc | apply Kd.R_drewN | apply Kd.R_drew)); exact (Kd.R_mono (Kd.R_far (p := ⟨gb292, 4, none⟩) (Kd.R_far (p := ⟨gb292, 3, none⟩) (Kd.R_far (p := ⟨gb292, 2, none⟩) (Kd.R_far (p := ⟨gb292, 1, none⟩) (Kd.R_far (p := ⟨gb292, 0, none⟩) (Kd.R_types HO272.out BK292.out (by decide)) (fun _ hk => hk.2) (.slice Ao54 t281.length co54)) (fun _ hk => hk.2) (.slice Ao56 t284.length co56)) (fun _ hk => hk.2) (.slice Ao58 t287.length co58)) (fun _ hk => hk.2) (.int .i64 t290)) (fun _ hk => hk.2) (.int .i64 t291)) (fun _ h_ => h_.1))) hb); replace HO275 := As.mk (Kd.R_below (by (with_reducible repeat (first | apply Kd.R_alloc | apply Kd.R_drewN | apply Kd.R_drew)); exact (Kd.R_mono (Kd.R_far (p := ⟨gb292, 4, none⟩) (Kd.R_far (p := ⟨gb292, 3, none⟩) (Kd.R_far (p := ⟨gb292, 2, none⟩) (Kd.R_far (p := ⟨gb292, 1, none⟩) (Kd.R_far (p := ⟨gb292, 0, none⟩) (Kd.R_types HO275.out BK292.out (by decide)) (fun _ hk => hk.2) (.slice Ao54 t281.length co54)) (fun _ hk => hk.2) (.slice Ao56 t284.length co56)) (fun _ hk => hk.2) (.slice Ao58 t287.length co58)) (fun _ hk => hk.2) (.int .i64 t290)) (fun _ hk => hk.2) (.int .i64 t291)) (fun _ h_ => h_.1))) hb); replace HO283 := As.mk (Kd.R_below (by (with_reducible repeat (first | apply Kd.R_alloc | apply Kd.R_drewN | apply Kd.R_drew)); exact (Kd.R_mono (Kd.R_far (p := ⟨gb292, 4, none⟩) (Kd.R_far (p := ⟨gb292, 3, none⟩) (Kd.R_far (p := ⟨gb292, 2, none⟩) (Kd.R_far (p := ⟨gb292, 1, none⟩) (Kd.R_far (p := ⟨gb292, 0, none⟩) (Kd.R_types HO283.out BK292.out (by decide)) (fun _ hk => hk.2) (.slice Ao54 t281.length co54)) (fun _ hk => hk.2) (.slice Ao56 t284.length co56)) (fun _ hk => hk.2) (.slice Ao58 t287.length co58)) (fun _ hk => hk.2) (.int .i64 t290)) (fun _ hk => hk.2) (.int .i64 t291)) (fun _ h_ => h_.1))) hb); replace HO286 := As.mk (Kd.R_below (by (with_reducible repeat (first | apply Kd.R_alloc | apply Kd.R_drewN | apply Kd.R_drew)); exact (Kd.R_mono (Kd.R_far (p := ⟨gb292, 4, none⟩) (Kd.R_far (p := ⟨gb292, 3, none⟩) (Kd.R_far (p := ⟨gb292, 2, none⟩) (Kd.R_far (p := ⟨gb292, 1, none⟩) (Kd.R_far (p := ⟨gb292, 0, none⟩) (Kd.R_types HO286.out BK292.out (by decide)) (fun _ hk => hk.2) (.slice Ao54 t281.length co54)) (fun _ hk => hk.2) (.slice Ao56 t284.length co56)) (fun _ hk => hk.2) (.slice Ao58 t287.length co58)) (fun _ hk => hk.2) (.int .i64 t290)) (fun _ hk => hk.2) (.int .i64 t291)) (fun _ h_ => h_.1))) hb); replace HO289 := As.mk (Kd.R_below (by (with_reducible repeat (first | apply Kd.R_alloc | apply Kd.R_drewN | apply Kd.R_drew)); exact (Kd.R_mono (Kd.R_far (p := ⟨gb292, 4, none⟩) (Kd.R_far (p := ⟨gb292, 3, none⟩) (Kd.R_far (p := ⟨gb292, 2, none⟩) (Kd.R_far (p := ⟨gb292, 1, none⟩) (Kd.R_far (p := ⟨gb292, 0, none⟩) (Kd.R_types HO289.out BK292.out (by decide)) (fun _ hk => hk.2) (.slice Ao54 t281.length co54)) (fun _ hk => hk.2) (.slice Ao56 t284.length co56)) (fun _ hk => hk.2) (.slice Ao58 t287.length co58)) (fun _ hk => hk.2) (.int .i64 t290)) (fun _ hk => hk.2) (.int .i64 t291)) (fun _ h_ => h_.1))) hb); replace BK239 := As.mk (blk_below (g := gb239) (o := .cells #[.slice A0_0 l0_0.length c0_0, .slice A0_1 l0_1.length c0_1, .slice A0_2 l0_2.length c0_2, .int .i64 a0_3, .int .i64 a0_4] 47 (0, 0)) (by refine pl ?_; refine blk_far ?_ NB239_292.out _; refine pl ?_; refine blk_far ?_ NB239_292.out _; refine pl ?_; refine blk_far ?_ NB239_292.out _; refine pl ?_; refine blk_far ?_ NB239_292.out _; refine pl ?_; refine blk_far ?_ NB239_292.out _; exact bx BK239.out) hb); replace BK240 := As.mk (blk_below (g := gb240) (o := .cells #[.int .i64 a1_0, .int .i64 a1_1] 48 (0, 0)) (by refine pl ?_; refine blk_far ?_ NB240_292.out _; refine pl ?_; refine blk_far ?_ NB240_292.out _; refine pl ?_; refine blk_far ?_ NB240_292.out _; refine pl ?_; refine blk_far ?_ NB240_292.out _; refine pl ?_; refine blk_far ?_ NB240_292.out _; exact bx BK240.out) hb); replace BK266 := As.mk (blk_below (g := gb266) (o := .cells #[.slice Ao28 t255.length co28, .slice Ao30 t258.length co30, .slice Ao32 t261.length co32, .int .i64 t264, .int .i64 t265] 34 (0, 0)) (by refine pl ?_; refine blk_far ?_ NB266_292.out _; refine pl ?_; refine blk_far ?_ NB266_292.out _; refine pl ?_; refine blk_far ?_ NB266_292.out _; refine pl ?_; refine blk_far ?_ NB266_292.out _; refine pl ?_; refine blk_far ?_ NB266_292.out _; exact bx BK266.out) hb); replace BK278 := As.mk (blk_below (g := gb278) (o := .cells #[.slice Ao41 t267.length co41, .slice Ao46 t270.length co46, .slice Ao47 t273.length co47, .int .i64 t276, .int .i64 t277] 34 (0, 0)) (by refine pl ?_; refine blk_far ?_ NB278_292.out _; refine pl ?_; refine blk_far ?_ NB278_292.out _; refine pl ?_; refine blk_far ?_ NB278_292.out _; refine pl ?_; refine blk_far ?_ NB278_292.out _; refine pl ?_; refine blk_far ?_ NB278_292.out _; exact bx BK278.out) hb); replace BK292 := As.mk (blk_below (g := gb292) (o := .cells #[.slice Ao54 t281.length co54, .slice Ao56 t284.length co56, .slice Ao58 t287.length co58, .int .i64 t290, .int .i64 t291] 34 (0, 0)) (by refine pl ?_; refine blk_put (cs := #[.slice Ao54 t281.length co54, .slice Ao56 t284.length co56, .slice Ao58 t287.length co58, .int .i64 t290, .int .i64 0]) ?_ 4 _ rfl; refine pl ?_; refine blk_put (cs := #[.slice Ao54 t281.length co54, .slice Ao56 t284.length co56, .slice Ao58 t287.length co58, .int .i64 0, .int .i64 0]) ?_ 3 _ rfl; refine pl ?_; refine blk_put (cs := #[.slice Ao54 t281.length co54, .slice Ao56 t284.length co56, .slice none 0 0, .int .i64 0, .int .i64 0]) ?_ 2 _ rfl; refine pl ?_; refine blk_put (cs := #[.slice Ao54 t281.length co54, .slice none 0 0, .slice none 0 0, .int .i64 0, .int .i64 0]) ?_ 1 _ rfl; refine pl ?_; refine blk_put (cs := #[.slice none 0 0, .slice none 0 0, .slice none 0 0, .int .i64 0, .int .i64 0]) ?_ 0 _ rfl; exact bx BK292.out) hb); replace HB := As.mk (below_step (be w) hb); (try clear hb); (try clear hb2); (try clear hk); (try clear hi)))
   (try simp only [pk])
   go_cut [] (fun wc => ∃ (kq : Nat), As (laws_FnExactFreed.j1 kq l0_0 l0_1 l0_2 a0_3 a0_4 a1_0 a1_1 t255 t258 t261 t264 t265 t267 t270 t273 t276 t277 t281 t284 t287 t290 t291 = some r) ∧ As (kq ≤ kj3) ∧ As (Kd.R k93 93 wc w.heap.size (fun k_ => some k_ ≠ ((.slice Ao41 t267.length co41) : Value).ownBlock ∧ some k_ ≠ ((.slice Ao54 t281.length co54) : Value).ownBlock) (.slice Ao28 t255.length co28) t255) ∧ As (Kd.R (Kd.int .i64) 3 wc w.heap.size (fun k_ => some k_ ≠ ((.slice Ao32 t261.length co32) : Value).ownBlock ∧ some k_ ≠ ((.slice Ao46 t270.length co46) : Value).ownBlock ∧ some k_ ≠ ((.slice Ao47 t273.length co47) : Value).ownBlock ∧ some k_ ≠ ((.slice Ao56 t284.length co56) : Value).ownBlock ∧ some k_ ≠ ((.slice Ao58 t287.length co58) : Value).ownBlock) (.slice Ao30 t258.length co30) t258) ∧ As (Kd.R (Kd.int .i64) 3 wc w.heap.size (fun k_ => some k_ ≠ ((.slice Ao30 t258.length co30) : Value).ownBlock ∧ some k_ ≠ ((.slice Ao46 t270.length co46) : Value).ownBlock ∧ some k_ ≠ ((.slice Ao47 t273.length co47) : Value).ownBlock ∧ some k_ ≠ ((.slice Ao56 t284.length co56) : Value).ownBlock ∧ some k_ ≠ ((.slice Ao58 t287.length co58) : Value).ownBlock) (.slice Ao32 t261.length co32) t261) ∧ As (Kd.R k93 93 wc w.heap.size (fun k_ => some k_ ≠ ((.slice Ao28 t255.length co28) : Value).ownBlock ∧ some k_ ≠ ((.slice Ao54 t281.length co54) : Value).ownBlock) (.slice Ao41 t267.length co41) t267) ∧ As (Kd.R (Kd.int .i64) 3 wc w.heap.size (fun k_ => some k_ ≠ ((.slice Ao30 t258.length co30) : Value).ownBlock ∧ some k_ ≠ ((.slice Ao32 t261.length co32) : Value).ownBlock ∧ some k_ ≠ ((.slice Ao47 t273.length co47) : Value).ownBlock ∧ some k_ ≠ ((.slice Ao56 t284.length co56) : Value).ownBlock ∧ some k_ ≠ ((.slice Ao58 t287.length co58) : Value).ownBlock) (.slice Ao46 t270.length co46) t270) ∧ As (Kd.R (Kd.int .i64) 3 wc w.heap.size (fun k_ => some k_ ≠ ((.slice Ao30 t258.length co30) : Value).ownBlock ∧ some k_ ≠ ((.slice Ao32 t261.length co32) : Value).ownBlock ∧ some k_ ≠ ((.slice Ao46 t270.length co46) : Value).ownBlock ∧ some k_ ≠ ((.slice Ao56 t284.length co56) : Value).ownBlock ∧ some k_ ≠ ((.slice Ao58 t287.length co58) : Value).ownBlock) (.slice Ao47 t273.length co47) t273) ∧ As (Kd.R k93 93 wc w.heap.size (fun k_ => some k_ ≠ ((.slice Ao28 t255.length co28) : Value).ownBlock ∧ some k_ ≠ ((.slice Ao41 t267.length co41) : Value).ownBlock) (.slice Ao54 t281.length co54) t281) ∧ As (Kd.R (Kd.int .i64) 3 wc w.heap.size (fun k_ => some k_ ≠ ((.slice Ao30 t258.length co30) : Value).ownBlock ∧ some k_ ≠ ((.slice Ao32 t261.length co32) : Value).ownBlock ∧ some k_ ≠ ((.slice Ao46 t270.length co46) : Value).ownBlock ∧ some k_ ≠ ((.slice Ao47 t273.length co47) : Value).ownBlock ∧ some k_ ≠ ((.slice Ao58 t287.length co58) : Value).ownBlock) (.slice Ao56 t284.length co56) t284) ∧ As (Kd.R (Kd.int .i64) 3 wc w.heap.size (fun k_ => some k_ ≠ ((.slice Ao30 t258.length co30) : Value).ownBlock ∧ some k_ ≠ ((.slice Ao32 t261.length co32) : Value).ownBlock ∧ some k_ ≠ ((.slice Ao46 t270.length co46) : Value).ownBlock ∧ some k_ ≠ ((.slice Ao47 t273.length co47) : Value).ownBlock ∧ some k_ ≠ ((.slice Ao56 t284.length co56) : Value).ownBlock) (.slice Ao58 t287.length co58) t287) ∧ As (wc.heap[gb239]? = some (.cells #[(.slice A0_0 l0_0.length c0_0), (.slice A0_1 l0_1.length c0_1), (.slice A0_2 l0_2.length c0_2), .int .i64 a0_3, .int .i64 a0_4] 47 (0, 0))) ∧ As (wc.heap[gb240]? = some (.cells #[.int .i64 a1_0, .int .i64 a1_1] 48 (0, 0))) ∧ As (wc.heap[gb266]? = some (.cells #[(.slice Ao28 t255.length co28), (.slice Ao30 t258.length co30), (.slice Ao32 t261.length co32), .int .i64 t264, .int .i64 t265] 34 (0, 0))) ∧ As (wc.heap[gb278]? = some (.cells #[(.slice Ao41 t267.length co41), (.slice Ao46 t270.length co46), (.slice Ao47 t273.length co47), .int .i64 t276, .int .i64 t277] 34 (0, 0))) ∧ As (wc.heap[gb292]? = some (.cells #[(.slice Ao54 t281.length co54), (.slice Ao56 t284.length co56), (.slice Ao58 t287.length co58), .int .i64 t290, .int .i64 t291] 34 (0, 0))) ∧ As (Below w.heap.size w wc))
   case first =>
    have H := HC18.out
    clear HC18
    by_cases c70 : t293 = true
    rotate_left
    ·
     replace c70 := Bool.eq_false_iff.mpr c70
     subst c70
     rw [if_neg (show ¬ (false = true) by decide)] at H
     exact absurd H (by rw [hrt.out]; simp)
    subst c70
    rw [if_pos rfl] at H
    have H' := As.mk H
    clear H
    go_wp2
    go_meet
    case rel => exact ⟨_, H', ⟨by have := HJ3.out; first | omega | exact Nat.le_refl _⟩, ⟨by (with_reducible repeat (first | apply Kd.R_alloc | apply Kd.R_drewN | apply Kd.R_drew)); exact Kd.R_mono HO257.out (fun _ hk => ⟨hk.2.1, hk.2.2⟩)⟩, ⟨by (with_reducible repeat (first | apply Kd.R_alloc | apply Kd.R_drewN | apply Kd.R_drew)); exact Kd.R_mono HO260.out (fun _ hk => ⟨hk.2.2.1, ⟨hk.2.2.2.1, ⟨hk.2.2.2.2.1, ⟨hk.2.2.2.2.2.1, hk.2.2.2.2.2.2⟩⟩⟩⟩)⟩, ⟨by (with_reducible repeat (first | apply Kd.R_alloc | apply Kd.R_drewN | apply Kd.R_drew)); exact Kd.R_mono HO263.out (fun _ hk => ⟨hk.2.2.1, ⟨hk.2.2.2.1, ⟨hk.2.2.2.2.1, ⟨hk.2.2.2.2.2.1, hk.2.2.2.2.2.2⟩⟩⟩⟩)⟩, ⟨by (with_reducible repeat (first | apply Kd.R_alloc | apply Kd.R_drewN | apply Kd.R_drew)); exact Kd.R_mono HO269.out (fun _ hk => ⟨hk.2.1, hk.2.2⟩)⟩, ⟨by (with_reducible repeat (first | apply Kd.R_alloc | apply Kd.R_drewN | apply Kd.R_drew)); exact Kd.R_mono HO272.out (fun _ hk => ⟨hk.2.2.1, ⟨hk.2.2.2.1, ⟨hk.2.2.2.2.1, ⟨hk.2.2.2.2.2.1, hk.2.2.2.2.2.2⟩⟩⟩⟩)⟩, ⟨by (with_reducible repeat (first | apply Kd.R_alloc | apply Kd.R_drewN | apply Kd.R_drew)); exact Kd.R_mono HO275.out (fun _ hk => ⟨hk.2.2.1, ⟨hk.2.2.2.1, ⟨hk.2.2.2.2.1, ⟨hk.2.2.2.2.2.1, hk.2.2.2.2.2.2⟩⟩⟩⟩)⟩, ⟨by (with_reducible repeat (first | apply Kd.R_alloc | apply Kd.R_drewN | apply Kd.R_drew)); exact Kd.R_mono HO283.out (fun _ hk => ⟨hk.2.1, hk.2.2⟩)⟩, ⟨by (with_reducible repeat (first | apply Kd.R_alloc | apply Kd.R_drewN | apply Kd.R_drew)); exact Kd.R_mono HO286.out (fun _ hk => ⟨hk.2.2.1, ⟨hk.2.2.2.1, ⟨hk.2.2.2.2.1, ⟨hk.2.2.2.2.2.1, hk.2.2.2.2.2.2⟩⟩⟩⟩)⟩, ⟨by (with_reducible repeat (first | apply Kd.R_alloc | apply Kd.R_drewN | apply Kd.R_drew)); exact Kd.R_mono HO289.out (fun _ hk => ⟨hk.2.2.1, ⟨hk.2.2.2.1, ⟨hk.2.2.2.2.1, ⟨hk.2.2.2.2.2.1, hk.2.2.2.2.2.2⟩⟩⟩⟩)⟩, ⟨bx BK239.out⟩, ⟨bx BK240.out⟩, ⟨bx BK266.out⟩, ⟨bx BK278.out⟩, ⟨bx BK292.out⟩, ⟨be w⟩⟩
   case rest =>
    clear HC18
    (try clear hcz66_0); (try clear hcz66_1); (try clear hcz66_2); (try clear hcz66_3); (try clear hcz66_4); (try clear hcz68_0); (try clear hcz68_1); (try clear hcz68_2); (try clear hcz68_3); (try clear hcz68_4); (try clear hfz66_0); (try clear hfz66_1); (try clear hfz66_2); (try clear hfz66_3); (try clear hfz66_4); (try clear hfz68_0); (try clear hfz68_1); (try clear hfz68_2); (try clear hfz68_3); (try clear hfz68_4)
    obtain ⟨kq, HA, HJ17, HO_267000, HO_267001, HO_267002, HO_279000, HO_279001, HO_279002, HO_293000, HO_293001, HO_293002, BK239, BK240, BK266, BK278, BK292, HB⟩ := hcut
    cases kq with
    | zero => exact absurd HA.out (by simp [laws_FnExactFreed.j1])
    | succ kj17 =>
     have H := HA.out
     clear HA
     simp only [laws_FnExactFreed.j1] at H
     obtain ⟨⟨t294, t297, t300, t303, t304⟩, A710, H⟩ := Option.bind_eq_some_iff.mp H
     try dsimp only at H
     have A71 := As.mk A710
     clear A710
     obtain ⟨t305, A720, H⟩ := Option.bind_eq_some_iff.mp H
     try dsimp only at H
     have A72 := As.mk A720
     clear A720
     have HC73 := As.mk H
     clear H
     try go_wp2
     replace HO_267000 := As.mk (Kd.R_drew HO_267000.out)
     replace HO_267001 := As.mk (Kd.R_drew HO_267001.out)
     replace HO_267002 := As.mk (Kd.R_drew HO_267002.out)
     replace HO_279000 := As.mk (Kd.R_drew HO_279000.out)
     replace HO_279001 := As.mk (Kd.R_drew HO_279001.out)
     replace HO_279002 := As.mk (Kd.R_drew HO_279002.out)
     replace HO_293000 := As.mk (Kd.R_drew HO_293000.out)
     replace HO_293001 := As.mk (Kd.R_drew HO_293001.out)
     replace HO_293002 := As.mk (Kd.R_drew HO_293002.out)
     replace BK239 := As.mk (blk_drew BK239.out)
     replace BK240 := As.mk (blk_drew BK240.out)
     replace BK266 := As.mk (blk_drew BK266.out)
     replace BK278 := As.mk (blk_drew BK278.out)
     replace BK292 := As.mk (blk_drew BK292.out)
     replace HB := As.mk (below_drew1 HB.out)
     refine start_ (n := 5) (S := fun w' => w'.cell? ⟨gb278, 0, none⟩ = some (.slice Ao41 t267.length co41) ∧ w'.cell? ⟨gb278, 1, none⟩ = some (.slice Ao46 t270.length co46) ∧ w'.cell? ⟨gb278, 2, none⟩ = some (.slice Ao47 t273.length co47) ∧ w'.cell? ⟨gb278, 3, none⟩ = some (.int .i64 t276) ∧ w'.cell? ⟨gb278, 4, none⟩ = some (.int .i64 t277) ∧ w'.cell? ⟨gb239, 0, none⟩ = some (.slice A0_0 l0_0.length c0_0) ∧ w'.cell? ⟨gb239, 1, none⟩ = some (.slice A0_1 l0_1.length c0_1) ∧ w'.cell? ⟨gb239, 2, none⟩ = some (.slice A0_2 l0_2.length c0_2) ∧ w'.cell? ⟨gb239, 3, none⟩ = some (.int .i64 a0_3) ∧ w'.cell? ⟨gb239, 4, none⟩ = some (.int .i64 a0_4)) (ds := []) #[O, O, O, O, O] (by kernel_rfl) rfl rfl ⟨(blk_cell BK278.out 0).trans rfl, (blk_cell BK278.out 1).trans rfl, (blk_cell BK278.out 2).trans rfl, (blk_cell BK278.out 3).trans rfl, (blk_cell BK278.out 4).trans rfl, (blk_cell BK239.out 0).trans rfl, (blk_cell BK239.out 1).trans rfl, (blk_cell BK239.out 2).trans rfl, (blk_cell BK239.out 3).trans rfl, (blk_cell BK239.out 4).trans rfl⟩ (fun hHeld => ?_)
     generalize wc.drew = w74 at HO_267000 HO_267001 HO_267002 HO_279000 HO_279001 HO_279002 HO_293000 HO_293001 HO_293002 BK239 BK240 BK266 BK278 BK292 HB hHeld ⊢
     refine take_ (i := 0) (N := some 33) (v := ?_) (a' := ?_) #[I, O, O, O, O] rfl rfl (by kernel_rfl) (fun _ _ _ h => h) (Or.inl ⟨by rfl, ?_⟩) hHeld ?_ ?_
     rotate_left
     ·
      rintro w' ⟨s0, s1, s2, s3, s4, s5, s6, s7, s8, s9⟩
      go_simp
      with_reducible rfl
     rotate_left
     ·
      simp only [pk, i64_w, i32_w]
      rfl
     refine take_ (i := 1) (N := some 34) (v := ?_) (a' := ?_) #[I, I, O, O, O] rfl rfl (by kernel_rfl) (fun _ _ _ h => h) (Or.inl ⟨by rfl, ?_⟩) hHeld ?_ ?_
     rotate_left
     ·
      rintro w' ⟨s0, s1, s2, s3, s4, s5, s6, s7, s8, s9⟩
      go_simp
      with_reducible rfl
     rotate_left
     ·
      simp only [pk, i64_w, i32_w]
      rfl
     refine one_ (i := 2) (N := some 35) #[I, I, I, O, O] rfl rfl (by kernel_rfl) (by decide) (fun K hK => ?_)
     refine goes_ Try.func25 (by kernel_rfl) rfl #[.agg #[.slice A0_0 l0_0.length c0_0, .slice A0_1 l0_1.length c0_1, .slice A0_2 l0_2.length c0_2, .int .i64 a0_3, .int .i64 a0_4]] (by rfl) rfl rfl (by (try simp only [lm]); first | done | rfl | (simp only [List.length_drop, List.length_take]; rfl)) ?_
     with_reducible refine (laws_toMemory.calls kj17 _ _ l0_0 _ _ l0_1 _ _ l0_2 a0_3 a0_4 t294 t297 t300 t303 t304 _ ?side1 ?side2 ?side3 ?side4 ?side5 ?side6 A71.out).mono ?_
     (case side1 => exact Kd.C_below HR0_0.out (be w))
     (case side2 => exact HC0_0.out)
     (case side3 => exact Kd.C_below HR0_1.out (be w))
     (case side4 => exact HC0_1.out)
     (case side5 => exact Kd.C_below HR0_2.out (be w))
     (case side6 => exact HC0_2.out)
     rintro e w75 ⟨v295, v298, v301, rfl, ho0, ho1, ho2, hb⟩
     refine ⟨_, rfl, ?_⟩
     have HO296 := As.mk (Kd.R_lower (Kd.R_new' (Kd.R_new' (Kd.R_new' ho0 (Kd.R_lt (by (with_reducible repeat (first | apply Kd.R_alloc | apply Kd.R_drewN | apply Kd.R_drew)); exact HO_267000.out))) (Kd.R_lt (by (with_reducible repeat (first | apply Kd.R_alloc | apply Kd.R_drewN | apply Kd.R_drew)); exact HO_279000.out))) (Kd.R_lt (by (with_reducible repeat (first | apply Kd.R_alloc | apply Kd.R_drewN | apply Kd.R_drew)); exact HO_293000.out))) (below_size (be w)))
     replace HO_267000 := As.mk (Kd.R_elder' (by (with_reducible repeat (first | apply Kd.R_alloc | apply Kd.R_drewN | apply Kd.R_drew)); exact HO_267000.out) (Kd.R_base ho0) hb)
     replace HO_279000 := As.mk (Kd.R_elder' (by (with_reducible repeat (first | apply Kd.R_alloc | apply Kd.R_drewN | apply Kd.R_drew)); exact HO_279000.out) (Kd.R_base ho0) hb)
     replace HO_293000 := As.mk (Kd.R_elder' (by (with_reducible repeat (first | apply Kd.R_alloc | apply Kd.R_drewN | apply Kd.R_drew)); exact HO_293000.out) (Kd.R_base ho0) hb)
     have HO299 := As.mk (Kd.R_lower (Kd.R_new' (Kd.R_new' (Kd.R_new' (Kd.R_new' (Kd.R_new' (Kd.R_new' ho1 (Kd.R_lt (by (with_reducible repeat (first | apply Kd.R_alloc | apply Kd.R_drewN | apply Kd.R_drew)); exact HO_267001.out))) (Kd.R_lt (by (with_reducible repeat (first | apply Kd.R_alloc | apply Kd.R_drewN | apply Kd.R_drew)); exact HO_267002.out))) (Kd.R_lt (by (with_reducible repeat (first | apply Kd.R_alloc | apply Kd.R_drewN | apply Kd.R_drew)); exact HO_279001.out))) (Kd.R_lt (by (with_reducible repeat (first | apply Kd.R_alloc | apply Kd.R_drewN | apply Kd.R_drew)); exact HO_279002.out))) (Kd.R_lt (by (with_reducible repeat (first | apply Kd.R_alloc | apply Kd.R_drewN | apply Kd.R_drew)); exact HO_293001.out))) (Kd.R_lt (by (with_reducible repeat (first | apply Kd.R_alloc | apply Kd.R_drewN | apply Kd.R_drew)); exact HO_293002.out))) (below_size (be w)))
     have HO302 := As.mk (Kd.R_lower (Kd.R_new' (Kd.R_new' (Kd.R_new' (Kd.R_new' (Kd.R_new' (Kd.R_new' ho2 (Kd.R_lt (by (with_reducible repeat (first | apply Kd.R_alloc | apply Kd.R_drewN | apply Kd.R_drew)); exact HO_267001.out))) (Kd.R_lt (by (with_reducible repeat (first | apply Kd.R_alloc | apply Kd.R_drewN | apply Kd.R_drew)); exact HO_267002.out))) (Kd.R_lt (by (with_reducible repeat (first | apply Kd.R_alloc | apply Kd.R_drewN | apply Kd.R_drew)); exact HO_279001.out))) (Kd.R_lt (by (with_reducible repeat (first | apply Kd.R_alloc | apply Kd.R_drewN | apply Kd.R_drew)); exact HO_279002.out))) (Kd.R_lt (by (with_reducible repeat (first | apply Kd.R_alloc | apply Kd.R_drewN | apply Kd.R_drew)); exact HO_293001.out))) (Kd.R_lt (by (with_reducible repeat (first | apply Kd.R_alloc | apply Kd.R_drewN | apply Kd.R_drew)); exact HO_293002.out))) (below_size (be w)))
     replace HO_267001 := As.mk (Kd.R_mono (Kd.R_told (Kd.R_told (Kd.R_old (by (with_reducible repeat (first | apply Kd.R_alloc | apply Kd.R_drewN | apply Kd.R_drew)); exact HO_267001.out) hb) (Kd.R_base ho1)) (Kd.R_base ho2)) (fun _ h_ => h_.1))
     replace HO_267002 := As.mk (Kd.R_mono (Kd.R_told (Kd.R_told (Kd.R_old (by (with_reducible repeat (first | apply Kd.R_alloc | apply Kd.R_drewN | apply Kd.R_drew)); exact HO_267002.out) hb) (Kd.R_base ho1)) (Kd.R_base ho2)) (fun _ h_ => h_.1))
     replace HO_279001 := As.mk (Kd.R_mono (Kd.R_told (Kd.R_told (Kd.R_old (by (with_reducible repeat (first | apply Kd.R_alloc | apply Kd.R_drewN | apply Kd.R_drew)); exact HO_279001.out) hb) (Kd.R_base ho1)) (Kd.R_base ho2)) (fun _ h_ => h_.1))
     replace HO_279002 := As.mk (Kd.R_mono (Kd.R_told (Kd.R_told (Kd.R_old (by (with_reducible repeat (first | apply Kd.R_alloc | apply Kd.R_drewN | apply Kd.R_drew)); exact HO_279002.out) hb) (Kd.R_base ho1)) (Kd.R_base ho2)) (fun _ h_ => h_.1))
     replace HO_293001 := As.mk (Kd.R_mono (Kd.R_told (Kd.R_told (Kd.R_old (by (with_reducible repeat (first | apply Kd.R_alloc | apply Kd.R_drewN | apply Kd.R_drew)); exact HO_293001.out) hb) (Kd.R_base ho1)) (Kd.R_base ho2)) (fun _ h_ => h_.1))
     replace HO_293002 := As.mk (Kd.R_mono (Kd.R_told (Kd.R_told (Kd.R_old (by (with_reducible repeat (first | apply Kd.R_alloc | apply Kd.R_drewN | apply Kd.R_drew)); exact HO_293002.out) hb) (Kd.R_base ho1)) (Kd.R_base ho2)) (fun _ h_ => h_.1))
     replace BK239 := As.mk (blk_below (bx BK239.out) hb)
     replace BK240 := As.mk (blk_below (bx BK240.out) hb)
     replace BK266 := As.mk (blk_below (bx BK266.out) hb)
     replace BK278 := As.mk (blk_below (bx BK278.out) hb)
     replace BK292 := As.mk (blk_below (bx BK292.out) hb)
     replace HB := As.mk (below_step (be w) hb)
     (try clear hb)
     (try clear hb2)
     (try clear hk)
     (try clear hi)
     (try clear ho0)
     (try clear ho1)
     (try clear ho2)
     obtain ⟨Ao76, co76, eo76⟩ := Kd.R_slice HO296.out
     (first | subst eo76 | (injection eo76 with f1_ f2_ f3_; have f4_ := f1_.symm; have f5_ := f3_.symm; clear f1_ f2_ f3_; subst f4_; subst f5_))
     obtain ⟨Ao77, co77, eo77⟩ := Kd.R_slice HO299.out
     (first | subst eo77 | (injection eo77 with f1_ f2_ f3_; have f4_ := f1_.symm; have f5_ := f3_.symm; clear f1_ f2_ f3_; subst f4_; subst f5_))
     obtain ⟨Ao78, co78, eo78⟩ := Kd.R_slice HO302.out
     (first | subst eo78 | (injection eo78 with f1_ f2_ f3_; have f4_ := f1_.symm; have f5_ := f3_.symm; clear f1_ f2_ f3_; subst f4_; subst f5_))
     refine hK.out _ _ ⟨(blk_cell BK278.out 0).trans rfl, (blk_cell BK278.out 1).trans rfl, (blk_cell BK278.out 2).trans rfl, (blk_cell BK278.out 3).trans rfl, (blk_cell BK278.out 4).trans rfl, (blk_cell BK239.out 0).trans rfl, (blk_cell BK239.out 1).trans rfl, (blk_cell BK239.out 2).trans rfl, (blk_cell BK239.out 3).trans rfl, (blk_cell BK239.out 4).trans rfl⟩ (fun hHeld => ?_)
     clear hK K
     refine norm_ (a' := ?_) ?_ ?_
     rotate_left
     ·
      show Act.put _ (some 35) _ = _
      simp only [pk, i64_w, i32_w]
      rfl
     refine one_ (i := 3) (N := some 36) #[I, I, I, I, O] rfl rfl (by kernel_rfl) (by decide) (fun K hK => ?_)
     refine goes_ Try.func27 (by kernel_rfl) rfl #[.agg #[.slice Ao41 t267.length co41, .slice Ao46 t270.length co46, .slice Ao47 t273.length co47, .int .i64 t276, .int .i64 t277], .agg #[.slice Ao76 t294.length co76, .slice Ao77 t297.length co77, .slice Ao78 t300.length co78, .int .i64 t303, .int .i64 t304]] (by rfl) rfl rfl (by (try simp only [lm]); first | done | rfl | (simp only [List.length_drop, List.length_take]; rfl)) ?_
     with_reducible refine (laws_eqMemory.calls kj17 _ _ t267 _ _ t270 _ _ t273 t276 t277 _ _ t294 _ _ t297 _ _ t300 t303 t304 t305 _ ?side1 ?side2 ?side3 ?side4 ?side5 ?side6 ?side7 ?side8 ?side9 ?side10 ?side11 ?side12 A72.out).mono ?_
     (case side1 => repeat (first | exact (Kd.R_reads' HO_279000.out).2.2 | (with_reducible refine Kd.C_alloc ?_ _) | (with_reducible refine Kd.C_drewN ?_ _) | (with_reducible refine Kd.C_drew ?_)))
     (case side2 => exact (Kd.R_reads' HO_279000.out).2.1)
     (case side3 => repeat (first | exact (Kd.R_reads' HO_279001.out).2.2 | (with_reducible refine Kd.C_alloc ?_ _) | (with_reducible refine Kd.C_drewN ?_ _) | (with_reducible refine Kd.C_drew ?_)))
     (case side4 => exact (Kd.R_reads' HO_279001.out).2.1)
     (case side5 => repeat (first | exact (Kd.R_reads' HO_279002.out).2.2 | (with_reducible refine Kd.C_alloc ?_ _) | (with_reducible refine Kd.C_drewN ?_ _) | (with_reducible refine Kd.C_drew ?_)))
     (case side6 => exact (Kd.R_reads' HO_279002.out).2.1)
     (case side7 => repeat (first | exact (Kd.R_reads' HO296.out).2.2 | (with_reducible refine Kd.C_alloc ?_ _) | (with_reducible refine Kd.C_drewN ?_ _) | (with_reducible refine Kd.C_drew ?_)))
     (case side8 => exact (Kd.R_reads' HO296.out).2.1)
     (case side9 => repeat (first | exact (Kd.R_reads' HO299.out).2.2 | (with_reducible refine Kd.C_alloc ?_ _) | (with_reducible refine Kd.C_drewN ?_ _) | (with_reducible refine Kd.C_drew ?_)))
     (case side10 => exact (Kd.R_reads' HO299.out).2.1)
     (case side11 => repeat (first | exact (Kd.R_reads' HO302.out).2.2 | (with_reducible refine Kd.C_alloc ?_ _) | (with_reducible refine Kd.C_drewN ?_ _) | (with_reducible refine Kd.C_drew ?_)))
     (case side12 => exact (Kd.R_reads' HO302.out).2.1)
     rintro e w79 ⟨rfl, hb⟩
     refine ⟨_, rfl, ?_⟩
     replace HO_267000 := As.mk (Kd.R_below (by (with_reducible repeat (first | apply Kd.R_alloc | apply Kd.R_drewN | apply Kd.R_drew)); exact HO_267000.out) hb)
     replace HO_267001 := As.mk (Kd.R_below (by (with_reducible repeat (first | apply Kd.R_alloc | apply Kd.R_drewN | apply Kd.R_drew)); exact HO_267001.out) hb)
     replace HO_267002 := As.mk (Kd.R_below (by (with_reducible repeat (first | apply Kd.R_alloc | apply Kd.R_drewN | apply Kd.R_drew)); exact HO_267002.out) hb)
     replace HO_279000 := As.mk (Kd.R_below (by (with_reducible repeat (first | apply Kd.R_alloc | apply Kd.R_drewN | apply Kd.R_drew)); exact HO_279000.out) hb)
     replace HO_279001 := As.mk (Kd.R_below (by (with_reducible repeat (first | apply Kd.R_alloc | apply Kd.R_drewN | apply Kd.R_drew)); exact HO_279001.out) hb)
     replace HO_279002 := As.mk (Kd.R_below (by (with_reducible repeat (first | apply Kd.R_alloc | apply Kd.R_drewN | apply Kd.R_drew)); exact HO_279002.out) hb)
     replace HO_293000 := As.mk (Kd.R_below (by (with_reducible repeat (first | apply Kd.R_alloc | apply Kd.R_drewN | apply Kd.R_drew)); exact HO_293000.out) hb)
     replace HO_293001 := As.mk (Kd.R_below (by (with_reducible repeat (first | apply Kd.R_alloc | apply Kd.R_drewN | apply Kd.R_drew)); exact HO_293001.out) hb)
     replace HO_293002 := As.mk (Kd.R_below (by (with_reducible repeat (first | apply Kd.R_alloc | apply Kd.R_drewN | apply Kd.R_drew)); exact HO_293002.out) hb)
     replace HO296 := As.mk (Kd.R_below (by (with_reducible repeat (first | apply Kd.R_alloc | apply Kd.R_drewN | apply Kd.R_drew)); exact HO296.out) hb)
     replace HO299 := As.mk (Kd.R_below (by (with_reducible repeat (first | apply Kd.R_alloc | apply Kd.R_drewN | apply Kd.R_drew)); exact HO299.out) hb)
     replace HO302 := As.mk (Kd.R_below (by (with_reducible repeat (first | apply Kd.R_alloc | apply Kd.R_drewN | apply Kd.R_drew)); exact HO302.out) hb)
     replace BK239 := As.mk (blk_below (bx BK239.out) hb)
     replace BK240 := As.mk (blk_below (bx BK240.out) hb)
     replace BK266 := As.mk (blk_below (bx BK266.out) hb)
     replace BK278 := As.mk (blk_below (bx BK278.out) hb)
     replace BK292 := As.mk (blk_below (bx BK292.out) hb)
     replace HB := As.mk (below_step (be w) hb)
     (try clear hb)
     (try clear hb2)
     (try clear hk)
     (try clear hi)
     refine hK.out _ _ ⟨(blk_cell BK278.out 0).trans rfl, (blk_cell BK278.out 1).trans rfl, (blk_cell BK278.out 2).trans rfl, (blk_cell BK278.out 3).trans rfl, (blk_cell BK278.out 4).trans rfl, (blk_cell BK239.out 0).trans rfl, (blk_cell BK239.out 1).trans rfl, (blk_cell BK239.out 2).trans rfl, (blk_cell BK239.out 3).trans rfl, (blk_cell BK239.out 4).trans rfl⟩ (fun hHeld => ?_)
     clear hK K
     refine norm_ (a' := ?_) ?_ ?_
     rotate_left
     ·
      show Act.put _ (some 36) _ = _
      simp only [pk, i64_w, i32_w]
      rfl
     refine pure_ (i := 4) (N := some 37) (v := ?_) (a' := ?_) #[I, I, I, I, I] rfl rfl (by kernel_rfl) (fun _ _ _ h => h) (Or.inl ⟨by rfl, ?_⟩) ?_ ?_
     rotate_left
     ·
      intro w'
      go_simp
      with_reducible rfl
     rotate_left
     ·
      simp only [pk, i64_w, i32_w]
      rfl
     refine done_ (by kernel_rfl) ?_
     go_upto_if 37 with (fail)
     go_cut [] (fun wc => ∃ (kq : Nat), As (laws_FnExactFreed.j2 kq l0_0 l0_1 l0_2 a0_3 a0_4 a1_0 a1_1 t255 t258 t261 t264 t265 t267 t270 t273 t276 t277 t281 t284 t287 t290 t291 = some r) ∧ As (kq ≤ kj17) ∧ As (Kd.R k93 93 wc w.heap.size (fun k_ => some k_ ≠ ((.slice Ao41 t267.length co41) : Value).ownBlock ∧ some k_ ≠ ((.slice Ao54 t281.length co54) : Value).ownBlock) (.slice Ao28 t255.length co28) t255) ∧ As (Kd.R (Kd.int .i64) 3 wc w.heap.size (fun k_ => some k_ ≠ ((.slice Ao32 t261.length co32) : Value).ownBlock ∧ some k_ ≠ ((.slice Ao46 t270.length co46) : Value).ownBlock ∧ some k_ ≠ ((.slice Ao47 t273.length co47) : Value).ownBlock ∧ some k_ ≠ ((.slice Ao56 t284.length co56) : Value).ownBlock ∧ some k_ ≠ ((.slice Ao58 t287.length co58) : Value).ownBlock) (.slice Ao30 t258.length co30) t258) ∧ As (Kd.R (Kd.int .i64) 3 wc w.heap.size (fun k_ => some k_ ≠ ((.slice Ao30 t258.length co30) : Value).ownBlock ∧ some k_ ≠ ((.slice Ao46 t270.length co46) : Value).ownBlock ∧ some k_ ≠ ((.slice Ao47 t273.length co47) : Value).ownBlock ∧ some k_ ≠ ((.slice Ao56 t284.length co56) : Value).ownBlock ∧ some k_ ≠ ((.slice Ao58 t287.length co58) : Value).ownBlock) (.slice Ao32 t261.length co32) t261) ∧ As (Kd.R k93 93 wc w.heap.size (fun k_ => some k_ ≠ ((.slice Ao28 t255.length co28) : Value).ownBlock ∧ some k_ ≠ ((.slice Ao54 t281.length co54) : Value).ownBlock) (.slice Ao41 t267.length co41) t267) ∧ As (Kd.R (Kd.int .i64) 3 wc w.heap.size (fun k_ => some k_ ≠ ((.slice Ao30 t258.length co30) : Value).ownBlock ∧ some k_ ≠ ((.slice Ao32 t261.length co32) : Value).ownBlock ∧ some k_ ≠ ((.slice Ao47 t273.length co47) : Value).ownBlock ∧ some k_ ≠ ((.slice Ao56 t284.length co56) : Value).ownBlock ∧ some k_ ≠ ((.slice Ao58 t287.length co58) : Value).ownBlock) (.slice Ao46 t270.length co46) t270) ∧ As (Kd.R (Kd.int .i64) 3 wc w.heap.size (fun k_ => some k_ ≠ ((.slice Ao30 t258.length co30) : Value).ownBlock ∧ some k_ ≠ ((.slice Ao32 t261.length co32) : Value).ownBlock ∧ some k_ ≠ ((.slice Ao46 t270.length co46) : Value).ownBlock ∧ some k_ ≠ ((.slice Ao56 t284.length co56) : Value).ownBlock ∧ some k_ ≠ ((.slice Ao58 t287.length co58) : Value).ownBlock) (.slice Ao47 t273.length co47) t273) ∧ As (Kd.R k93 93 wc w.heap.size (fun k_ => some k_ ≠ ((.slice Ao28 t255.length co28) : Value).ownBlock ∧ some k_ ≠ ((.slice Ao41 t267.length co41) : Value).ownBlock) (.slice Ao54 t281.length co54) t281) ∧ As (Kd.R (Kd.int .i64) 3 wc w.heap.size (fun k_ => some k_ ≠ ((.slice Ao30 t258.length co30) : Value).ownBlock ∧ some k_ ≠ ((.slice Ao32 t261.length co32) : Value).ownBlock ∧ some k_ ≠ ((.slice Ao46 t270.length co46) : Value).ownBlock ∧ some k_ ≠ ((.slice Ao47 t273.length co47) : Value).ownBlock ∧ some k_ ≠ ((.slice Ao58 t287.length co58) : Value).ownBlock) (.slice Ao56 t284.length co56) t284) ∧ As (Kd.R (Kd.int .i64) 3 wc w.heap.size (fun k_ => some k_ ≠ ((.slice Ao30 t258.length co30) : Value).ownBlock ∧ some k_ ≠ ((.slice Ao32 t261.length co32) : Value).ownBlock ∧ some k_ ≠ ((.slice Ao46 t270.length co46) : Value).ownBlock ∧ some k_ ≠ ((.slice Ao47 t273.length co47) : Value).ownBlock ∧ some k_ ≠ ((.slice Ao56 t284.length co56) : Value).ownBlock) (.slice Ao58 t287.length co58) t287) ∧ As (wc.heap[gb239]? = some (.cells #[(.slice A0_0 l0_0.length c0_0), (.slice A0_1 l0_1.length c0_1), (.slice A0_2 l0_2.length c0_2), .int .i64 a0_3, .int .i64 a0_4] 47 (0, 0))) ∧ As (wc.heap[gb240]? = some (.cells #[.int .i64 a1_0, .int .i64 a1_1] 48 (0, 0))) ∧ As (wc.heap[gb266]? = some (.cells #[(.slice Ao28 t255.length co28), (.slice Ao30 t258.length co30), (.slice Ao32 t261.length co32), .int .i64 t264, .int .i64 t265] 34 (0, 0))) ∧ As (wc.heap[gb278]? = some (.cells #[(.slice Ao41 t267.length co41), (.slice Ao46 t270.length co46), (.slice Ao47 t273.length co47), .int .i64 t276, .int .i64 t277] 34 (0, 0))) ∧ As (wc.heap[gb292]? = some (.cells #[(.slice Ao54 t281.length co54), (.slice Ao56 t284.length co56), (.slice Ao58 t287.length co58), .int .i64 t290, .int .i64 t291] 34 (0, 0))) ∧ As (Below w.heap.size w wc))
     case first =>
      have H := HC73.out
      clear HC73
      by_cases c80 : t305 = true
      rotate_left
      ·
       replace c80 := Bool.eq_false_iff.mpr c80
       subst c80
       rw [if_neg (show ¬ (false = true) by decide)] at H
       exact absurd H (by rw [hrt.out]; simp)
      subst c80
      rw [if_pos rfl] at H
      have H' := As.mk H
      clear H
      go_wp2
      go_meet
      case rel => exact ⟨_, H', ⟨by have := HJ3.out; have := HJ17.out; first | omega | exact Nat.le_refl _⟩, ⟨by (with_reducible repeat (first | apply Kd.R_alloc | apply Kd.R_drewN | apply Kd.R_drew)); exact Kd.R_mono HO_267000.out (fun _ hk => ⟨hk.1.1, hk.1.2⟩)⟩, ⟨by (with_reducible repeat (first | apply Kd.R_alloc | apply Kd.R_drewN | apply Kd.R_drew)); exact Kd.R_mono HO_267001.out (fun _ hk => ⟨hk.1.1.1, ⟨hk.1.1.2.1, ⟨hk.1.1.2.2.1, ⟨hk.1.1.2.2.2.1, hk.1.1.2.2.2.2⟩⟩⟩⟩)⟩, ⟨by (with_reducible repeat (first | apply Kd.R_alloc | apply Kd.R_drewN | apply Kd.R_drew)); exact Kd.R_mono HO_267002.out (fun _ hk => ⟨hk.1.1.1, ⟨hk.1.1.2.1, ⟨hk.1.1.2.2.1, ⟨hk.1.1.2.2.2.1, hk.1.1.2.2.2.2⟩⟩⟩⟩)⟩, ⟨by (with_reducible repeat (first | apply Kd.R_alloc | apply Kd.R_drewN | apply Kd.R_drew)); exact Kd.R_mono HO_279000.out (fun _ hk => ⟨hk.1.1, hk.1.2⟩)⟩, ⟨by (with_reducible repeat (first | apply Kd.R_alloc | apply Kd.R_drewN | apply Kd.R_drew)); exact Kd.R_mono HO_279001.out (fun _ hk => ⟨hk.1.1.1, ⟨hk.1.1.2.1, ⟨hk.1.1.2.2.1, ⟨hk.1.1.2.2.2.1, hk.1.1.2.2.2.2⟩⟩⟩⟩)⟩, ⟨by (with_reducible repeat (first | apply Kd.R_alloc | apply Kd.R_drewN | apply Kd.R_drew)); exact Kd.R_mono HO_279002.out (fun _ hk => ⟨hk.1.1.1, ⟨hk.1.1.2.1, ⟨hk.1.1.2.2.1, ⟨hk.1.1.2.2.2.1, hk.1.1.2.2.2.2⟩⟩⟩⟩)⟩, ⟨by (with_reducible repeat (first | apply Kd.R_alloc | apply Kd.R_drewN | apply Kd.R_drew)); exact Kd.R_mono HO_293000.out (fun _ hk => ⟨hk.1.1, hk.1.2⟩)⟩, ⟨by (with_reducible repeat (first | apply Kd.R_alloc | apply Kd.R_drewN | apply Kd.R_drew)); exact Kd.R_mono HO_293001.out (fun _ hk => ⟨hk.1.1.1, ⟨hk.1.1.2.1, ⟨hk.1.1.2.2.1, ⟨hk.1.1.2.2.2.1, hk.1.1.2.2.2.2⟩⟩⟩⟩)⟩, ⟨by (with_reducible repeat (first | apply Kd.R_alloc | apply Kd.R_drewN | apply Kd.R_drew)); exact Kd.R_mono HO_293002.out (fun _ hk => ⟨hk.1.1.1, ⟨hk.1.1.2.1, ⟨hk.1.1.2.2.1, ⟨hk.1.1.2.2.2.1, hk.1.1.2.2.2.2⟩⟩⟩⟩)⟩, ⟨bx BK239.out⟩, ⟨bx BK240.out⟩, ⟨bx BK266.out⟩, ⟨bx BK278.out⟩, ⟨bx BK292.out⟩, ⟨be w⟩⟩
     case rest =>
      clear HC73
      (try clear hcz66_0); (try clear hcz66_1); (try clear hcz66_2); (try clear hcz66_3); (try clear hcz66_4); (try clear hcz68_0); (try clear hcz68_1); (try clear hcz68_2); (try clear hcz68_3); (try clear hcz68_4); (try clear hfz66_0); (try clear hfz66_1); (try clear hfz66_2); (try clear hfz66_3); (try clear hfz66_4); (try clear hfz68_0); (try clear hfz68_1); (try clear hfz68_2); (try clear hfz68_3); (try clear hfz68_4)
      obtain ⟨kq, HA, HJ72, HO_267000, HO_267001, HO_267002, HO_279000, HO_279001, HO_279002, HO_293000, HO_293001, HO_293002, BK239, BK240, BK266, BK278, BK292, HB⟩ := hcut
      cases kq with
      | zero => exact absurd HA.out (by simp [laws_FnExactFreed.j2])
      | succ kj72 =>
       have H := HA.out
       clear HA
       simp only [laws_FnExactFreed.j2] at H
       obtain ⟨⟨t306, t307, t308, t309⟩, A810, H⟩ := Option.bind_eq_some_iff.mp H
       try dsimp only at H
       have A81 := As.mk A810
       clear A810
       have HC82 := As.mk H
       clear H
       have hnb83 := NB278_239.out
       have hnc83 := NB239_278.out
       have hnb84 := NB278_240.out
       have hnc84 := NB240_278.out
       have hnb85 := NB278_266.out
       have hnc85 := NB266_278.out
       have hnb86 := NB278_292.out
       have hnc86 := NB292_278.out
       obtain ⟨hcz87_0, hcz87_1, hcz87_2, hcz87_3, hcz87_4, hfz87_0, hfz87_1, hfz87_2, hfz87_3, hfz87_4⟩ := cl5 BK278.out
       go_upto_region 14 with (first | ((with_reducible refine gate_callee (f := 28) rfl ?_); refine goesL_ (some 40) rfl rfl Try.func28 (by kernel_rfl) rfl #[.agg #[.slice Ao41 t267.length co41, .slice Ao46 t270.length co46, .slice Ao47 t273.length co47, .int .i64 t276, .int .i64 t277], .int .i64 1] rfl (by (try simp only [lm]); first | done | rfl | (simp only [List.length_drop, List.length_take]; rfl)) ?_; (with_reducible refine (laws_markMemory.calls kj72 (fun k_ => some k_ = (.slice Ao41 t267.length co41 : Value).ownBlock) (.slice Ao41 t267.length co41) t267 (fun k_ => some k_ = (.slice Ao46 t270.length co46 : Value).ownBlock) (.slice Ao46 t270.length co46) t270 (fun k_ => some k_ = (.slice Ao47 t273.length co47 : Value).ownBlock) (.slice Ao47 t273.length co47) t273 t276 t277 1 t306 t307 t308 t309 w _ ?side1 ?side2 ?side3 ?side4 ?side5 ?side6 A81.out).mono ?_); (case side1 => repeat (first | (with_reducible first | exact HB.out | apply below_alloc | apply pw_below_drewN | apply below_drew1 | refine below_set ?_ GE239.out | refine below_set ?_ GE240.out | refine below_set ?_ GE266.out | refine below_set ?_ GE278.out | refine below_set ?_ GE292.out) | exact HB.out)); (case side2 => exact Kd.R_tight rfl HO_279000.out); (case side3 => exact Kd.R_tight rfl HO_279001.out); (case side4 => exact fun k_ e_ => (HO_279001.out.1 k_ e_.symm).2.2.1); (case side5 => exact Kd.R_tight rfl HO_279002.out); (case side6 => exact fun k_ e_ => (HO_279002.out.1 k_ e_.symm).2.2.1); rintro e w88 ⟨rfl, hy0, hy1, hy2, hb, hkp⟩; refine ⟨_, rfl, ?_⟩; replace HO_267000 := As.mk (Kd.R_mono (ok' := fun k_ => some k_ ≠ (.slice Ao41 t267.length co41 : Value).ownBlock ∧ some k_ ≠ (.slice Ao54 t281.length co54 : Value).ownBlock) (Kd.R_keptB ((Kd.R_apart' (Kd.R_apart' HO_267000.out (Kd.R_typed HO_279001.out) (by decide)) (Kd.R_typed HO_279002.out) (by decide))) hkp (fun k_ hk_ hs_ => Or.elim hs_ (fun e_ => (hk_.1.1.1) e_) (fun e_ => Or.elim e_ (fun e_ => (hk_.1.2) e_) (fun e_ => (hk_.2) e_)))) (fun k_ hk_ => ⟨hk_.1.1.1.1, hk_.1.1.1.2⟩)); replace HO_267001 := As.mk (Kd.R_mono (ok' := fun k_ => some k_ ≠ (.slice Ao32 t261.length co32 : Value).ownBlock ∧ some k_ ≠ (.slice Ao46 t270.length co46 : Value).ownBlock ∧ some k_ ≠ (.slice Ao47 t273.length co47 : Value).ownBlock ∧ some k_ ≠ (.slice Ao56 t284.length co56 : Value).ownBlock ∧ some k_ ≠ (.slice Ao58 t287.length co58 : Value).ownBlock) (Kd.R_keptB ((Kd.R_apart' HO_267001.out (Kd.R_typed HO_279000.out) (by decide))) hkp (fun k_ hk_ hs_ => Or.elim hs_ (fun e_ => (hk_.2) e_) (fun e_ => Or.elim e_ (fun e_ => (hk_.1.2.1) e_) (fun e_ => (hk_.1.2.2.1) e_)))) (fun k_ hk_ => ⟨hk_.1.1.1, hk_.1.1.2.1, hk_.1.1.2.2.1, hk_.1.1.2.2.2.1, hk_.1.1.2.2.2.2⟩)); replace HO_267002 := As.mk (Kd.R_mono (ok' := fun k_ => some k_ ≠ (.slice Ao30 t258.length co30 : Value).ownBlock ∧ some k_ ≠ (.slice Ao46 t270.length co46 : Value).ownBlock ∧ some k_ ≠ (.slice Ao47 t273.length co47 : Value).ownBlock ∧ some k_ ≠ (.slice Ao56 t284.length co56 : Value).ownBlock ∧ some k_ ≠ (.slice Ao58 t287.length co58 : Value).ownBlock) (Kd.R_keptB ((Kd.R_apart' HO_267002.out (Kd.R_typed HO_279000.out) (by decide))) hkp (fun k_ hk_ hs_ => Or.elim hs_ (fun e_ => (hk_.2) e_) (fun e_ => Or.elim e_ (fun e_ => (hk_.1.2.1) e_) (fun e_ => (hk_.1.2.2.1) e_)))) (fun k_ hk_ => ⟨hk_.1.1.1, hk_.1.1.2.1, hk_.1.1.2.2.1, hk_.1.1.2.2.2.1, hk_.1.1.2.2.2.2⟩)); replace HO_293000 := As.mk (Kd.R_mono (ok' := fun k_ => some k_ ≠ (.slice Ao28 t255.length co28 : Value).ownBlock ∧ some k_ ≠ (.slice Ao41 t267.length co41 : Value).ownBlock) (Kd.R_keptB ((Kd.R_apart' (Kd.R_apart' HO_293000.out (Kd.R_typed HO_279001.out) (by decide)) (Kd.R_typed HO_279002.out) (by decide))) hkp (fun k_ hk_ hs_ => Or.elim hs_ (fun e_ => (hk_.1.1.2) e_) (fun e_ => Or.elim e_ (fun e_ => (hk_.1.2) e_) (fun e_ => (hk_.2) e_)))) (fun k_ hk_ => ⟨hk_.1.1.1.1, hk_.1.1.1.2⟩)); replace HO_293001 := As.mk (Kd.R_mono (ok' := fun k_ => some k_ ≠ (.slice Ao30 t258.length co30 : Value).ownBlock ∧ some k_ ≠ (.slice Ao32 t261.length co32 : Value).ownBlock ∧ some k_ ≠ (.slice Ao46 t270.length co46 : Value).ownBlock ∧ some k_ ≠ (.slice Ao47 t273.length co47 : Value).ownBlock ∧ some k_ ≠ (.slice Ao58 t287.length co58 : Value).ownBlock) (Kd.R_keptB ((Kd.R_apart' HO_293001.out (Kd.R_typed HO_279000.out) (by decide))) hkp (fun k_ hk_ hs_ => Or.elim hs_ (fun e_ => (hk_.2) e_) (fun e_ => Or.elim e_ (fun e_ => (hk_.1.2.2.1) e_) (fun e_ => (hk_.1.2.2.2.1) e_)))) (fun k_ hk_ => ⟨hk_.1.1.1, hk_.1.1.2.1, hk_.1.1.2.2.1, hk_.1.1.2.2.2.1, hk_.1.1.2.2.2.2⟩)); replace HO_293002 := As.mk (Kd.R_mono (ok' := fun k_ => some k_ ≠ (.slice Ao30 t258.length co30 : Value).ownBlock ∧ some k_ ≠ (.slice Ao32 t261.length co32 : Value).ownBlock ∧ some k_ ≠ (.slice Ao46 t270.length co46 : Value).ownBlock ∧ some k_ ≠ (.slice Ao47 t273.length co47 : Value).ownBlock ∧ some k_ ≠ (.slice Ao56 t284.length co56 : Value).ownBlock) (Kd.R_keptB ((Kd.R_apart' HO_293002.out (Kd.R_typed HO_279000.out) (by decide))) hkp (fun k_ hk_ hs_ => Or.elim hs_ (fun e_ => (hk_.2) e_) (fun e_ => Or.elim e_ (fun e_ => (hk_.1.2.2.1) e_) (fun e_ => (hk_.1.2.2.2.1) e_)))) (fun k_ hk_ => ⟨hk_.1.1.1, hk_.1.1.2.1, hk_.1.1.2.2.1, hk_.1.1.2.2.2.1, hk_.1.1.2.2.2.2⟩)); replace BK239 := As.mk (blk_kept (bx BK239.out) hkp (fun hs_ => Or.elim hs_ (fun e_ => (fun e_ => (Kd.R_ne HO_279000.out BK239.out (by decide)) e_) e_) (fun e_ => Or.elim e_ (fun e_ => (fun e_ => (Kd.R_ne HO_279001.out BK239.out (by decide)) e_) e_) (fun e_ => (fun e_ => (Kd.R_ne HO_279002.out BK239.out (by decide)) e_) e_)))); replace BK240 := As.mk (blk_kept (bx BK240.out) hkp (fun hs_ => Or.elim hs_ (fun e_ => (fun e_ => (Kd.R_ne HO_279000.out BK240.out (by decide)) e_) e_) (fun e_ => Or.elim e_ (fun e_ => (fun e_ => (Kd.R_ne HO_279001.out BK240.out (by decide)) e_) e_) (fun e_ => (fun e_ => (Kd.R_ne HO_279002.out BK240.out (by decide)) e_) e_)))); replace BK266 := As.mk (blk_kept (bx BK266.out) hkp (fun hs_ => Or.elim hs_ (fun e_ => (fun e_ => (Kd.R_ne HO_279000.out BK266.out (by decide)) e_) e_) (fun e_ => Or.elim e_ (fun e_ => (fun e_ => (Kd.R_ne HO_279001.out BK266.out (by decide)) e_) e_) (fun e_ => (fun e_ => (Kd.R_ne HO_279002.out BK266.out (by decide)) e_) e_)))); replace BK278 := As.mk (blk_kept (bx BK278.out) hkp (fun hs_ => Or.elim hs_ (fun e_ => (fun e_ => (Kd.R_ne HO_279000.out BK278.out (by decide)) e_) e_) (fun e_ => Or.elim e_ (fun e_ => (fun e_ => (Kd.R_ne HO_279001.out BK278.out (by decide)) e_) e_) (fun e_ => (fun e_ => (Kd.R_ne HO_279002.out BK278.out (by decide)) e_) e_)))); replace BK292 := As.mk (blk_kept (bx BK292.out) hkp (fun hs_ => Or.elim hs_ (fun e_ => (fun e_ => (Kd.R_ne HO_279000.out BK292.out (by decide)) e_) e_) (fun e_ => Or.elim e_ (fun e_ => (fun e_ => (Kd.R_ne HO_279001.out BK292.out (by decide)) e_) e_) (fun e_ => (fun e_ => (Kd.R_ne HO_279002.out BK292.out (by decide)) e_) e_)))); replace HO_279000 := As.mk (Kd.R_reok rfl hy0 (fun k_ e_ => HO_279000.out.1 k_ e_)); replace HO_279001 := As.mk (Kd.R_reok rfl hy1 (fun k_ e_ => HO_279001.out.1 k_ e_)); replace HO_279002 := As.mk (Kd.R_reok rfl hy2 (fun k_ e_ => HO_279002.out.1 k_ e_)); replace HB := As.mk (hb); (try clear hb); (try clear hkp); (try clear hy0); (try clear hy1); (try clear hy2)))
       (try simp only [pk])
       go_cut [48] (fun v48 wc => ∃ (kq : Nat) (x48_81 : Bool), v48 = .bool x48_81 ∧ As (laws_FnExactFreed.j3 kq x48_81 l0_0 l0_1 l0_2 a0_3 a0_4 a1_0 a1_1 t255 t258 t261 t264 t265 t281 t284 t287 t290 t291 = some r) ∧ As (kq ≤ kj72) ∧ As (Kd.R k93 93 wc w.heap.size (fun k_ => some k_ ≠ ((.slice Ao41 t267.length co41) : Value).ownBlock ∧ some k_ ≠ ((.slice Ao54 t281.length co54) : Value).ownBlock) (.slice Ao28 t255.length co28) t255) ∧ As (Kd.R (Kd.int .i64) 3 wc w.heap.size (fun k_ => some k_ ≠ ((.slice Ao32 t261.length co32) : Value).ownBlock ∧ some k_ ≠ ((.slice Ao46 t270.length co46) : Value).ownBlock ∧ some k_ ≠ ((.slice Ao47 t273.length co47) : Value).ownBlock ∧ some k_ ≠ ((.slice Ao56 t284.length co56) : Value).ownBlock ∧ some k_ ≠ ((.slice Ao58 t287.length co58) : Value).ownBlock) (.slice Ao30 t258.length co30) t258) ∧ As (Kd.R (Kd.int .i64) 3 wc w.heap.size (fun k_ => some k_ ≠ ((.slice Ao30 t258.length co30) : Value).ownBlock ∧ some k_ ≠ ((.slice Ao46 t270.length co46) : Value).ownBlock ∧ some k_ ≠ ((.slice Ao47 t273.length co47) : Value).ownBlock ∧ some k_ ≠ ((.slice Ao56 t284.length co56) : Value).ownBlock ∧ some k_ ≠ ((.slice Ao58 t287.length co58) : Value).ownBlock) (.slice Ao32 t261.length co32) t261) ∧ As (Kd.R k93 93 wc w.heap.size (fun k_ => some k_ ≠ ((.slice Ao28 t255.length co28) : Value).ownBlock ∧ some k_ ≠ ((.slice Ao54 t281.length co54) : Value).ownBlock) (.slice Ao41 t267.length co41) t307) ∧ As (Kd.R (Kd.int .i64) 3 wc w.heap.size (fun k_ => some k_ ≠ ((.slice Ao30 t258.length co30) : Value).ownBlock ∧ some k_ ≠ ((.slice Ao32 t261.length co32) : Value).ownBlock ∧ some k_ ≠ ((.slice Ao47 t273.length co47) : Value).ownBlock ∧ some k_ ≠ ((.slice Ao56 t284.length co56) : Value).ownBlock ∧ some k_ ≠ ((.slice Ao58 t287.length co58) : Value).ownBlock) (.slice Ao46 t270.length co46) t308) ∧ As (Kd.R (Kd.int .i64) 3 wc w.heap.size (fun k_ => some k_ ≠ ((.slice Ao30 t258.length co30) : Value).ownBlock ∧ some k_ ≠ ((.slice Ao32 t261.length co32) : Value).ownBlock ∧ some k_ ≠ ((.slice Ao46 t270.length co46) : Value).ownBlock ∧ some k_ ≠ ((.slice Ao56 t284.length co56) : Value).ownBlock ∧ some k_ ≠ ((.slice Ao58 t287.length co58) : Value).ownBlock) (.slice Ao47 t273.length co47) t309) ∧ As (Kd.R k93 93 wc w.heap.size (fun k_ => some k_ ≠ ((.slice Ao28 t255.length co28) : Value).ownBlock ∧ some k_ ≠ ((.slice Ao41 t267.length co41) : Value).ownBlock) (.slice Ao54 t281.length co54) t281) ∧ As (Kd.R (Kd.int .i64) 3 wc w.heap.size (fun k_ => some k_ ≠ ((.slice Ao30 t258.length co30) : Value).ownBlock ∧ some k_ ≠ ((.slice Ao32 t261.length co32) : Value).ownBlock ∧ some k_ ≠ ((.slice Ao46 t270.length co46) : Value).ownBlock ∧ some k_ ≠ ((.slice Ao47 t273.length co47) : Value).ownBlock ∧ some k_ ≠ ((.slice Ao58 t287.length co58) : Value).ownBlock) (.slice Ao56 t284.length co56) t284) ∧ As (Kd.R (Kd.int .i64) 3 wc w.heap.size (fun k_ => some k_ ≠ ((.slice Ao30 t258.length co30) : Value).ownBlock ∧ some k_ ≠ ((.slice Ao32 t261.length co32) : Value).ownBlock ∧ some k_ ≠ ((.slice Ao46 t270.length co46) : Value).ownBlock ∧ some k_ ≠ ((.slice Ao47 t273.length co47) : Value).ownBlock ∧ some k_ ≠ ((.slice Ao56 t284.length co56) : Value).ownBlock) (.slice Ao58 t287.length co58) t287) ∧ As (wc.heap[gb239]? = some (.cells #[(.slice A0_0 l0_0.length c0_0), (.slice A0_1 l0_1.length c0_1), (.slice A0_2 l0_2.length c0_2), .int .i64 a0_3, .int .i64 a0_4] 47 (0, 0))) ∧ As (wc.heap[gb240]? = some (.cells #[.int .i64 a1_0, .int .i64 a1_1] 48 (0, 0))) ∧ As (wc.heap[gb266]? = some (.cells #[(.slice Ao28 t255.length co28), (.slice Ao30 t258.length co30), (.slice Ao32 t261.length co32), .int .i64 t264, .int .i64 t265] 34 (0, 0))) ∧ As (wc.heap[gb278]? = some (.cells #[(.slice Ao41 t267.length co41), (.slice Ao46 t270.length co46), (.slice Ao47 t273.length co47), .int .i64 t276, .int .i64 t277] 34 (0, 0))) ∧ As (wc.heap[gb292]? = some (.cells #[(.slice Ao54 t281.length co54), (.slice Ao56 t284.length co56), (.slice Ao58 t287.length co58), .int .i64 t290, .int .i64 t291] 34 (0, 0))) ∧ As (Below w.heap.size w wc))
       case first =>
        have H := HC82.out
        clear HC82
        by_cases c89 : t306 < 0
        ·
         rw [if_pos c89] at H
         have c89b0 : decide (t306 < 0) = true := decide_eq_true c89
         clear c89
         (first | rw [c89b0] | (simp only [i64_w, i32_w]; rw [c89b0]) | skip)
         have H' := As.mk H
         clear H
         go_wp2
         go_meet
         case rel => exact ⟨_, (true), (by first | rfl | (simp; done) | (simp [*]; done)), H', ⟨by have := HJ3.out; have := HJ17.out; have := HJ72.out; first | omega | exact Nat.le_refl _⟩, ⟨by (with_reducible repeat (first | apply Kd.R_alloc | apply Kd.R_drewN | apply Kd.R_drew)); exact HO_267000.out⟩, ⟨by (with_reducible repeat (first | apply Kd.R_alloc | apply Kd.R_drewN | apply Kd.R_drew)); exact HO_267001.out⟩, ⟨by (with_reducible repeat (first | apply Kd.R_alloc | apply Kd.R_drewN | apply Kd.R_drew)); exact HO_267002.out⟩, ⟨by (with_reducible repeat (first | apply Kd.R_alloc | apply Kd.R_drewN | apply Kd.R_drew)); exact HO_279000.out⟩, ⟨by (with_reducible repeat (first | apply Kd.R_alloc | apply Kd.R_drewN | apply Kd.R_drew)); exact HO_279001.out⟩, ⟨by (with_reducible repeat (first | apply Kd.R_alloc | apply Kd.R_drewN | apply Kd.R_drew)); exact HO_279002.out⟩, ⟨by (with_reducible repeat (first | apply Kd.R_alloc | apply Kd.R_drewN | apply Kd.R_drew)); exact HO_293000.out⟩, ⟨by (with_reducible repeat (first | apply Kd.R_alloc | apply Kd.R_drewN | apply Kd.R_drew)); exact HO_293001.out⟩, ⟨by (with_reducible repeat (first | apply Kd.R_alloc | apply Kd.R_drewN | apply Kd.R_drew)); exact HO_293002.out⟩, ⟨bx BK239.out⟩, ⟨bx BK240.out⟩, ⟨bx BK266.out⟩, ⟨bx BK278.out⟩, ⟨bx BK292.out⟩, ⟨be w⟩⟩
        rw [if_neg c89] at H
        have c89b0 : decide (t306 < 0) = false := decide_eq_false c89
        clear c89
        (first | rw [c89b0] | (simp only [i64_w, i32_w]; rw [c89b0]) | skip)
        obtain ⟨t310, A900, H⟩ := Option.bind_eq_some_iff.mp H
        try dsimp only at H
        have A90 := As.mk A900
        clear A900
        have H' := As.mk H
        clear H
        have hnb91 := NB292_239.out
        have hnc91 := NB239_292.out
        have hnb92 := NB292_240.out
        have hnc92 := NB240_292.out
        have hnb93 := NB292_266.out
        have hnc93 := NB266_292.out
        have hnb94 := NB292_278.out
        have hnc94 := NB278_292.out
        obtain ⟨hcz95_0, hcz95_1, hcz95_2, hcz95_3, hcz95_4, hfz95_0, hfz95_1, hfz95_2, hfz95_3, hfz95_4⟩ := cl5 BK292.out
        have hnb96 := NB266_239.out
        have hnc96 := NB239_266.out
        have hnb97 := NB266_240.out
        have hnc97 := NB240_266.out
        have hnb98 := NB266_278.out
        have hnc98 := NB278_266.out
        obtain ⟨hcz99_0, hcz99_1, hcz99_2, hcz99_3, hcz99_4, hfz99_0, hfz99_1, hfz99_2, hfz99_3, hfz99_4⟩ := cl5 BK266.out
        go_wp2_with (first | (go_at_call 27; (with_reducible refine (laws_eqMemory.calls kj72 _ _ t281 _ _ t284 _ _ t287 t290 t291 _ _ t255 _ _ t258 _ _ t261 t264 t265 t310 _ ?side1 ?side2 ?side3 ?side4 ?side5 ?side6 ?side7 ?side8 ?side9 ?side10 ?side11 ?side12 A90.out).mono ?_); (case side1 => repeat (first | exact (Kd.R_reads' HO_293000.out).2.2 | (with_reducible refine Kd.C_alloc ?_ _) | (with_reducible refine Kd.C_drewN ?_ _) | (with_reducible refine Kd.C_drew ?_))); (case side2 => exact (Kd.R_reads' HO_293000.out).2.1); (case side3 => repeat (first | exact (Kd.R_reads' HO_293001.out).2.2 | (with_reducible refine Kd.C_alloc ?_ _) | (with_reducible refine Kd.C_drewN ?_ _) | (with_reducible refine Kd.C_drew ?_))); (case side4 => exact (Kd.R_reads' HO_293001.out).2.1); (case side5 => repeat (first | exact (Kd.R_reads' HO_293002.out).2.2 | (with_reducible refine Kd.C_alloc ?_ _) | (with_reducible refine Kd.C_drewN ?_ _) | (with_reducible refine Kd.C_drew ?_))); (case side6 => exact (Kd.R_reads' HO_293002.out).2.1); (case side7 => repeat (first | exact (Kd.R_reads' HO_267000.out).2.2 | (with_reducible refine Kd.C_alloc ?_ _) | (with_reducible refine Kd.C_drewN ?_ _) | (with_reducible refine Kd.C_drew ?_))); (case side8 => exact (Kd.R_reads' HO_267000.out).2.1); (case side9 => repeat (first | exact (Kd.R_reads' HO_267001.out).2.2 | (with_reducible refine Kd.C_alloc ?_ _) | (with_reducible refine Kd.C_drewN ?_ _) | (with_reducible refine Kd.C_drew ?_))); (case side10 => exact (Kd.R_reads' HO_267001.out).2.1); (case side11 => repeat (first | exact (Kd.R_reads' HO_267002.out).2.2 | (with_reducible refine Kd.C_alloc ?_ _) | (with_reducible refine Kd.C_drewN ?_ _) | (with_reducible refine Kd.C_drew ?_))); (case side12 => exact (Kd.R_reads' HO_267002.out).2.1); rintro e w100 ⟨rfl, hb⟩; replace HO_267000 := As.mk (Kd.R_below (by (with_reducible repeat (first | apply Kd.R_alloc | apply Kd.R_drewN | apply Kd.R_drew)); exact HO_267000.out) hb); replace HO_267001 := As.mk (Kd.R_below (by (with_reducible repeat (first | apply Kd.R_alloc | apply Kd.R_drewN | apply Kd.R_drew)); exact HO_267001.out) hb); replace HO_267002 := As.mk (Kd.R_below (by (with_reducible repeat (first | apply Kd.R_alloc | apply Kd.R_drewN | apply Kd.R_drew)); exact HO_267002.out) hb); replace HO_279000 := As.mk (Kd.R_below (by (with_reducible repeat (first | apply Kd.R_alloc | apply Kd.R_drewN | apply Kd.R_drew)); exact HO_279000.out) hb); replace HO_279001 := As.mk (Kd.R_below (by (with_reducible repeat (first | apply Kd.R_alloc | apply Kd.R_drewN | apply Kd.R_drew)); exact HO_279001.out) hb); replace HO_279002 := As.mk (Kd.R_below (by (with_reducible repeat (first | apply Kd.R_alloc | apply Kd.R_drewN | apply Kd.R_drew)); exact HO_279002.out) hb); replace HO_293000 := As.mk (Kd.R_below (by (with_reducible repeat (first | apply Kd.R_alloc | apply Kd.R_drewN | apply Kd.R_drew)); exact HO_293000.out) hb); replace HO_293001 := As.mk (Kd.R_below (by (with_reducible repeat (first | apply Kd.R_alloc | apply Kd.R_drewN | apply Kd.R_drew)); exact HO_293001.out) hb); replace HO_293002 := As.mk (Kd.R_below (by (with_reducible repeat (first | apply Kd.R_alloc | apply Kd.R_drewN | apply Kd.R_drew)); exact HO_293002.out) hb); replace BK239 := As.mk (blk_below (bx BK239.out) hb); replace BK240 := As.mk (blk_below (bx BK240.out) hb); replace BK266 := As.mk (blk_below (bx BK266.out) hb); replace BK278 := As.mk (blk_below (bx BK278.out) hb); replace BK292 := As.mk (blk_below (bx BK292.out) hb); replace HB := As.mk (below_step (be w) hb); (try clear hb); (try clear hb2); (try clear hk); (try clear hi)))
        go_meet
        case rel => exact ⟨_, (!t310), (by first | rfl | (simp; done) | (simp [*]; done)), H', ⟨by have := HJ3.out; have := HJ17.out; have := HJ72.out; first | omega | exact Nat.le_refl _⟩, ⟨by (with_reducible repeat (first | apply Kd.R_alloc | apply Kd.R_drewN | apply Kd.R_drew)); exact HO_267000.out⟩, ⟨by (with_reducible repeat (first | apply Kd.R_alloc | apply Kd.R_drewN | apply Kd.R_drew)); exact HO_267001.out⟩, ⟨by (with_reducible repeat (first | apply Kd.R_alloc | apply Kd.R_drewN | apply Kd.R_drew)); exact HO_267002.out⟩, ⟨by (with_reducible repeat (first | apply Kd.R_alloc | apply Kd.R_drewN | apply Kd.R_drew)); exact HO_279000.out⟩, ⟨by (with_reducible repeat (first | apply Kd.R_alloc | apply Kd.R_drewN | apply Kd.R_drew)); exact HO_279001.out⟩, ⟨by (with_reducible repeat (first | apply Kd.R_alloc | apply Kd.R_drewN | apply Kd.R_drew)); exact HO_279002.out⟩, ⟨by (with_reducible repeat (first | apply Kd.R_alloc | apply Kd.R_drewN | apply Kd.R_drew)); exact HO_293000.out⟩, ⟨by (with_reducible repeat (first | apply Kd.R_alloc | apply Kd.R_drewN | apply Kd.R_drew)); exact HO_293001.out⟩, ⟨by (with_reducible repeat (first | apply Kd.R_alloc | apply Kd.R_drewN | apply Kd.R_drew)); exact HO_293002.out⟩, ⟨bx BK239.out⟩, ⟨bx BK240.out⟩, ⟨bx BK266.out⟩, ⟨bx BK278.out⟩, ⟨bx BK292.out⟩, ⟨be w⟩⟩
       case rest =>
        clear HC82
        (try clear hcz66_0); (try clear hcz66_1); (try clear hcz66_2); (try clear hcz66_3); (try clear hcz66_4); (try clear hcz68_0); (try clear hcz68_1); (try clear hcz68_2); (try clear hcz68_3); (try clear hcz68_4); (try clear hcz87_0); (try clear hcz87_1); (try clear hcz87_2); (try clear hcz87_3); (try clear hcz87_4); (try clear hfz66_0); (try clear hfz66_1); (try clear hfz66_2); (try clear hfz66_3); (try clear hfz66_4); (try clear hfz68_0); (try clear hfz68_1); (try clear hfz68_2); (try clear hfz68_3); (try clear hfz68_4); (try clear hfz87_0); (try clear hfz87_1); (try clear hfz87_2); (try clear hfz87_3); (try clear hfz87_4)
        obtain ⟨kq, x48_81, rfl, HA, HJ81, HO_267000, HO_267001, HO_267002, HO_279000, HO_279001, HO_279002, HO_293000, HO_293001, HO_293002, BK239, BK240, BK266, BK278, BK292, HB⟩ := hcut
        have hl279000_81 := (Kd.R_reads' HO_279000.out).1
        rw [hl279000_81] at HO_279000
        (try simp only [hl279000_81])
        (try simp only [hl279000_81] at BK239)
        (try simp only [hl279000_81] at BK240)
        (try simp only [hl279000_81] at BK266)
        (try simp only [hl279000_81] at BK278)
        (try simp only [hl279000_81] at BK292)
        (try simp only [hl279000_81] at HO_267000)
        (try simp only [hl279000_81] at HO_267001)
        (try simp only [hl279000_81] at HO_267002)
        (try simp only [hl279000_81] at HO_279001)
        (try simp only [hl279000_81] at HO_279002)
        (try simp only [hl279000_81] at HO_293000)
        (try simp only [hl279000_81] at HO_293001)
        (try simp only [hl279000_81] at HO_293002)
        have hl279001_81 := (Kd.R_reads' HO_279001.out).1
        rw [hl279001_81] at HO_279001
        (try simp only [hl279001_81])
        (try simp only [hl279001_81] at BK239)
        (try simp only [hl279001_81] at BK240)
        (try simp only [hl279001_81] at BK266)
        (try simp only [hl279001_81] at BK278)
        (try simp only [hl279001_81] at BK292)
        (try simp only [hl279001_81] at HO_267000)
        (try simp only [hl279001_81] at HO_267001)
        (try simp only [hl279001_81] at HO_267002)
        (try simp only [hl279001_81] at HO_279000)
        (try simp only [hl279001_81] at HO_279002)
        (try simp only [hl279001_81] at HO_293000)
        (try simp only [hl279001_81] at HO_293001)
        (try simp only [hl279001_81] at HO_293002)
        have hl279002_81 := (Kd.R_reads' HO_279002.out).1
        rw [hl279002_81] at HO_279002
        (try simp only [hl279002_81])
        (try simp only [hl279002_81] at BK239)
        (try simp only [hl279002_81] at BK240)
        (try simp only [hl279002_81] at BK266)
        (try simp only [hl279002_81] at BK278)
        (try simp only [hl279002_81] at BK292)
        (try simp only [hl279002_81] at HO_267000)
        (try simp only [hl279002_81] at HO_267001)
        (try simp only [hl279002_81] at HO_267002)
        (try simp only [hl279002_81] at HO_279000)
        (try simp only [hl279002_81] at HO_279001)
        (try simp only [hl279002_81] at HO_293000)
        (try simp only [hl279002_81] at HO_293001)
        (try simp only [hl279002_81] at HO_293002)
        cases kq with
        | zero => exact absurd HA.out (by simp [laws_FnExactFreed.j3])
        | succ kj81 =>
         have H := HA.out
         clear HA
         simp only [laws_FnExactFreed.j3] at H
         have HC101 := As.mk H
         clear H
         go_upto_if 48 with (fail)
         go_cut [] (fun wc => ∃ (kq : Nat), As (laws_FnExactFreed.j4 kq l0_0 l0_1 l0_2 a0_3 a0_4 a1_0 a1_1 t255 t258 t261 t264 t265 t281 t284 t287 t290 t291 = some r) ∧ As (kq ≤ kj81) ∧ As (Kd.R k93 93 wc w.heap.size (fun k_ => some k_ ≠ ((.slice Ao41 t307.length co41) : Value).ownBlock ∧ some k_ ≠ ((.slice Ao54 t281.length co54) : Value).ownBlock) (.slice Ao28 t255.length co28) t255) ∧ As (Kd.R (Kd.int .i64) 3 wc w.heap.size (fun k_ => some k_ ≠ ((.slice Ao32 t261.length co32) : Value).ownBlock ∧ some k_ ≠ ((.slice Ao46 t308.length co46) : Value).ownBlock ∧ some k_ ≠ ((.slice Ao47 t309.length co47) : Value).ownBlock ∧ some k_ ≠ ((.slice Ao56 t284.length co56) : Value).ownBlock ∧ some k_ ≠ ((.slice Ao58 t287.length co58) : Value).ownBlock) (.slice Ao30 t258.length co30) t258) ∧ As (Kd.R (Kd.int .i64) 3 wc w.heap.size (fun k_ => some k_ ≠ ((.slice Ao30 t258.length co30) : Value).ownBlock ∧ some k_ ≠ ((.slice Ao46 t308.length co46) : Value).ownBlock ∧ some k_ ≠ ((.slice Ao47 t309.length co47) : Value).ownBlock ∧ some k_ ≠ ((.slice Ao56 t284.length co56) : Value).ownBlock ∧ some k_ ≠ ((.slice Ao58 t287.length co58) : Value).ownBlock) (.slice Ao32 t261.length co32) t261) ∧ As (Kd.R k93 93 wc w.heap.size (fun k_ => some k_ ≠ ((.slice Ao28 t255.length co28) : Value).ownBlock ∧ some k_ ≠ ((.slice Ao54 t281.length co54) : Value).ownBlock) (.slice Ao41 t307.length co41) t307) ∧ As (Kd.R (Kd.int .i64) 3 wc w.heap.size (fun k_ => some k_ ≠ ((.slice Ao30 t258.length co30) : Value).ownBlock ∧ some k_ ≠ ((.slice Ao32 t261.length co32) : Value).ownBlock ∧ some k_ ≠ ((.slice Ao47 t309.length co47) : Value).ownBlock ∧ some k_ ≠ ((.slice Ao56 t284.length co56) : Value).ownBlock ∧ some k_ ≠ ((.slice Ao58 t287.length co58) : Value).ownBlock) (.slice Ao46 t308.length co46) t308) ∧ As (Kd.R (Kd.int .i64) 3 wc w.heap.size (fun k_ => some k_ ≠ ((.slice Ao30 t258.length co30) : Value).ownBlock ∧ some k_ ≠ ((.slice Ao32 t261.length co32) : Value).ownBlock ∧ some k_ ≠ ((.slice Ao46 t308.length co46) : Value).ownBlock ∧ some k_ ≠ ((.slice Ao56 t284.length co56) : Value).ownBlock ∧ some k_ ≠ ((.slice Ao58 t287.length co58) : Value).ownBlock) (.slice Ao47 t309.length co47) t309) ∧ As (Kd.R k93 93 wc w.heap.size (fun k_ => some k_ ≠ ((.slice Ao28 t255.length co28) : Value).ownBlock ∧ some k_ ≠ ((.slice Ao41 t307.length co41) : Value).ownBlock) (.slice Ao54 t281.length co54) t281) ∧ As (Kd.R (Kd.int .i64) 3 wc w.heap.size (fun k_ => some k_ ≠ ((.slice Ao30 t258.length co30) : Value).ownBlock ∧ some k_ ≠ ((.slice Ao32 t261.length co32) : Value).ownBlock ∧ some k_ ≠ ((.slice Ao46 t308.length co46) : Value).ownBlock ∧ some k_ ≠ ((.slice Ao47 t309.length co47) : Value).ownBlock ∧ some k_ ≠ ((.slice Ao58 t287.length co58) : Value).ownBlock) (.slice Ao56 t284.length co56) t284) ∧ As (Kd.R (Kd.int .i64) 3 wc w.heap.size (fun k_ => some k_ ≠ ((.slice Ao30 t258.length co30) : Value).ownBlock ∧ some k_ ≠ ((.slice Ao32 t261.length co32) : Value).ownBlock ∧ some k_ ≠ ((.slice Ao46 t308.length co46) : Value).ownBlock ∧ some k_ ≠ ((.slice Ao47 t309.length co47) : Value).ownBlock ∧ some k_ ≠ ((.slice Ao56 t284.length co56) : Value).ownBlock) (.slice Ao58 t287.length co58) t287) ∧ As (wc.heap[gb239]? = some (.cells #[(.slice A0_0 l0_0.length c0_0), (.slice A0_1 l0_1.length c0_1), (.slice A0_2 l0_2.length c0_2), .int .i64 a0_3, .int .i64 a0_4] 47 (0, 0))) ∧ As (wc.heap[gb240]? = some (.cells #[.int .i64 a1_0, .int .i64 a1_1] 48 (0, 0))) ∧ As (wc.heap[gb266]? = some (.cells #[(.slice Ao28 t255.length co28), (.slice Ao30 t258.length co30), (.slice Ao32 t261.length co32), .int .i64 t264, .int .i64 t265] 34 (0, 0))) ∧ As (wc.heap[gb278]? = some (.cells #[(.slice Ao41 t307.length co41), (.slice Ao46 t308.length co46), (.slice Ao47 t309.length co47), .int .i64 t276, .int .i64 t277] 34 (0, 0))) ∧ As (wc.heap[gb292]? = some (.cells #[(.slice Ao54 t281.length co54), (.slice Ao56 t284.length co56), (.slice Ao58 t287.length co58), .int .i64 t290, .int .i64 t291] 34 (0, 0))) ∧ As (Below w.heap.size w wc))
         case first =>
          have H := HC101.out
          clear HC101
          by_cases c102 : x48_81 = true
          ·
           subst c102
           rw [if_pos rfl] at H
           exact absurd H (by rw [hrt.out]; simp)
          replace c102 := Bool.eq_false_iff.mpr c102
          subst c102
          rw [if_neg (show ¬ (false = true) by decide)] at H
          have H' := As.mk H
          clear H
          go_wp2
          go_meet
          case rel => exact ⟨_, H', ⟨by have := HJ3.out; have := HJ17.out; have := HJ72.out; have := HJ81.out; first | omega | exact Nat.le_refl _⟩, ⟨by (try simp only [hl279000_81]); (try simp only [hl279001_81]); (try simp only [hl279002_81]); (with_reducible repeat (first | apply Kd.R_alloc | apply Kd.R_drewN | apply Kd.R_drew)); exact HO_267000.out⟩, ⟨by (try simp only [hl279000_81]); (try simp only [hl279001_81]); (try simp only [hl279002_81]); (with_reducible repeat (first | apply Kd.R_alloc | apply Kd.R_drewN | apply Kd.R_drew)); exact HO_267001.out⟩, ⟨by (try simp only [hl279000_81]); (try simp only [hl279001_81]); (try simp only [hl279002_81]); (with_reducible repeat (first | apply Kd.R_alloc | apply Kd.R_drewN | apply Kd.R_drew)); exact HO_267002.out⟩, ⟨by (try simp only [hl279000_81]); (try simp only [hl279001_81]); (try simp only [hl279002_81]); (with_reducible repeat (first | apply Kd.R_alloc | apply Kd.R_drewN | apply Kd.R_drew)); exact HO_279000.out⟩, ⟨by (try simp only [hl279000_81]); (try simp only [hl279001_81]); (try simp only [hl279002_81]); (with_reducible repeat (first | apply Kd.R_alloc | apply Kd.R_drewN | apply Kd.R_drew)); exact HO_279001.out⟩, ⟨by (try simp only [hl279000_81]); (try simp only [hl279001_81]); (try simp only [hl279002_81]); (with_reducible repeat (first | apply Kd.R_alloc | apply Kd.R_drewN | apply Kd.R_drew)); exact HO_279002.out⟩, ⟨by (try simp only [hl279000_81]); (try simp only [hl279001_81]); (try simp only [hl279002_81]); (with_reducible repeat (first | apply Kd.R_alloc | apply Kd.R_drewN | apply Kd.R_drew)); exact HO_293000.out⟩, ⟨by (try simp only [hl279000_81]); (try simp only [hl279001_81]); (try simp only [hl279002_81]); (with_reducible repeat (first | apply Kd.R_alloc | apply Kd.R_drewN | apply Kd.R_drew)); exact HO_293001.out⟩, ⟨by (try simp only [hl279000_81]); (try simp only [hl279001_81]); (try simp only [hl279002_81]); (with_reducible repeat (first | apply Kd.R_alloc | apply Kd.R_drewN | apply Kd.R_drew)); exact HO_293002.out⟩, ⟨by (try simp only [hl279000_81]); (try simp only [hl279001_81]); (try simp only [hl279002_81]); exact bx BK239.out⟩, ⟨by (try simp only [hl279000_81]); (try simp only [hl279001_81]); (try simp only [hl279002_81]); exact bx BK240.out⟩, ⟨by (try simp only [hl279000_81]); (try simp only [hl279001_81]); (try simp only [hl279002_81]); exact bx BK266.out⟩, ⟨by (try simp only [hl279000_81]); (try simp only [hl279001_81]); (try simp only [hl279002_81]); exact bx BK278.out⟩, ⟨by (try simp only [hl279000_81]); (try simp only [hl279001_81]); (try simp only [hl279002_81]); exact bx BK292.out⟩, ⟨be w⟩⟩
         case rest =>
          clear HC101
          (try clear hcz66_0); (try clear hcz66_1); (try clear hcz66_2); (try clear hcz66_3); (try clear hcz66_4); (try clear hcz68_0); (try clear hcz68_1); (try clear hcz68_2); (try clear hcz68_3); (try clear hcz68_4); (try clear hcz87_0); (try clear hcz87_1); (try clear hcz87_2); (try clear hcz87_3); (try clear hcz87_4); (try clear hfz66_0); (try clear hfz66_1); (try clear hfz66_2); (try clear hfz66_3); (try clear hfz66_4); (try clear hfz68_0); (try clear hfz68_1); (try clear hfz68_2); (try clear hfz68_3); (try clear hfz68_4); (try clear hfz87_0); (try clear hfz87_1); (try clear hfz87_2); (try clear hfz87_3); (try clear hfz87_4)
          obtain ⟨kq, HA, HJ100, HO_267000, HO_267001, HO_267002, HO_279000, HO_279001, HO_279002, HO_293000, HO_293001, HO_293002, BK239, BK240, BK266, BK278, BK292, HB⟩ := hcut
          cases kq with
          | zero => exact absurd HA.out (by simp [laws_FnExactFreed.j4])
          | succ kj100 =>
           have H := HA.out
           clear HA
           simp only [laws_FnExactFreed.j4] at H
           obtain ⟨⟨t311, t312, t313, t314⟩, A1030, H⟩ := Option.bind_eq_some_iff.mp H
           try dsimp only at H
           have A103 := As.mk A1030
           clear A1030
           obtain ⟨t315, A1040, H⟩ := Option.bind_eq_some_iff.mp H
           try dsimp only at H
           have A104 := As.mk A1040
           clear A1040
           have HC105 := As.mk H
           clear H
           have hnb106 := NB292_239.out
           have hnc106 := NB239_292.out
           have hnb107 := NB292_240.out
           have hnc107 := NB240_292.out
           have hnb108 := NB292_266.out
           have hnc108 := NB266_292.out
           have hnb109 := NB292_278.out
           have hnc109 := NB278_292.out
           obtain ⟨hcz110_0, hcz110_1, hcz110_2, hcz110_3, hcz110_4, hfz110_0, hfz110_1, hfz110_2, hfz110_3, hfz110_4⟩ := cl5 BK292.out
           go_upto_if 56 with (first | ((with_reducible refine gate_callee (f := 28) rfl ?_); refine goesL_ (some 51) rfl rfl Try.func28 (by kernel_rfl) rfl #[.agg #[.slice Ao54 t281.length co54, .slice Ao56 t284.length co56, .slice Ao58 t287.length co58, .int .i64 t290, .int .i64 t291], .int .i64 1] rfl (by (try simp only [lm]); first | done | rfl | (simp only [List.length_drop, List.length_take]; rfl)) ?_; (with_reducible refine (laws_markMemory.calls kj100 (fun k_ => some k_ = (.slice Ao54 t281.length co54 : Value).ownBlock) (.slice Ao54 t281.length co54) t281 (fun k_ => some k_ = (.slice Ao56 t284.length co56 : Value).ownBlock) (.slice Ao56 t284.length co56) t284 (fun k_ => some k_ = (.slice Ao58 t287.length co58 : Value).ownBlock) (.slice Ao58 t287.length co58) t287 t290 t291 1 t311 t312 t313 t314 w _ ?side1 ?side2 ?side3 ?side4 ?side5 ?side6 A103.out).mono ?_); (case side1 => repeat (first | (with_reducible first | exact HB.out | apply below_alloc | apply pw_below_drewN | apply below_drew1 | refine below_set ?_ GE239.out | refine below_set ?_ GE240.out | refine below_set ?_ GE266.out | refine below_set ?_ GE278.out | refine below_set ?_ GE292.out) | exact HB.out)); (case side2 => exact Kd.R_tight rfl HO_293000.out); (case side3 => exact Kd.R_tight rfl HO_293001.out); (case side4 => exact fun k_ e_ => (HO_293001.out.1 k_ e_.symm).2.2.2.2); (case side5 => exact Kd.R_tight rfl HO_293002.out); (case side6 => exact fun k_ e_ => (HO_293002.out.1 k_ e_.symm).2.2.2.2); rintro e w111 ⟨rfl, hy0, hy1, hy2, hb, hkp⟩; refine ⟨_, rfl, ?_⟩; replace HO_267000 := As.mk (Kd.R_mono (ok' := fun k_ => some k_ ≠ (.slice Ao41 t307.length co41 : Value).ownBlock ∧ some k_ ≠ (.slice Ao54 t281.length co54 : Value).ownBlock) (Kd.R_keptB ((Kd.R_apart' (Kd.R_apart' HO_267000.out (Kd.R_typed HO_293001.out) (by decide)) (Kd.R_typed HO_293002.out) (by decide))) hkp (fun k_ hk_ hs_ => Or.elim hs_ (fun e_ => (hk_.1.1.2) e_) (fun e_ => Or.elim e_ (fun e_ => (hk_.1.2) e_) (fun e_ => (hk_.2) e_)))) (fun k_ hk_ => ⟨hk_.1.1.1.1, hk_.1.1.1.2⟩)); replace HO_267001 := As.mk (Kd.R_mono (ok' := fun k_ => some k_ ≠ (.slice Ao32 t261.length co32 : Value).ownBlock ∧ some k_ ≠ (.slice Ao46 t308.length co46 : Value).ownBlock ∧ some k_ ≠ (.slice Ao47 t309.length co47 : Value).ownBlock ∧ some k_ ≠ (.slice Ao56 t284.length co56 : Value).ownBlock ∧ some k_ ≠ (.slice Ao58 t287.length co58 : Value).ownBlock) (Kd.R_keptB ((Kd.R_apart' HO_267001.out (Kd.R_typed HO_293000.out) (by decide))) hkp (fun k_ hk_ hs_ => Or.elim hs_ (fun e_ => (hk_.2) e_) (fun e_ => Or.elim e_ (fun e_ => (hk_.1.2.2.2.1) e_) (fun e_ => (hk_.1.2.2.2.2) e_)))) (fun k_ hk_ => ⟨hk_.1.1.1, hk_.1.1.2.1, hk_.1.1.2.2.1, hk_.1.1.2.2.2.1, hk_.1.1.2.2.2.2⟩)); replace HO_267002 := As.mk (Kd.R_mono (ok' := fun k_ => some k_ ≠ (.slice Ao30 t258.length co30 : Value).ownBlock ∧ some k_ ≠ (.slice Ao46 t308.length co46 : Value).ownBlock ∧ some k_ ≠ (.slice Ao47 t309.length co47 : Value).ownBlock ∧ some k_ ≠ (.slice Ao56 t284.length co56 : Value).ownBlock ∧ some k_ ≠ (.slice Ao58 t287.length co58 : Value).ownBlock) (Kd.R_keptB ((Kd.R_apart' HO_267002.out (Kd.R_typed HO_293000.out) (by decide))) hkp (fun k_ hk_ hs_ => Or.elim hs_ (fun e_ => (hk_.2) e_) (fun e_ => Or.elim e_ (fun e_ => (hk_.1.2.2.2.1) e_) (fun e_ => (hk_.1.2.2.2.2) e_)))) (fun k_ hk_ => ⟨hk_.1.1.1, hk_.1.1.2.1, hk_.1.1.2.2.1, hk_.1.1.2.2.2.1, hk_.1.1.2.2.2.2⟩)); replace HO_279000 := As.mk (Kd.R_mono (ok' := fun k_ => some k_ ≠ (.slice Ao28 t255.length co28 : Value).ownBlock ∧ some k_ ≠ (.slice Ao54 t281.length co54 : Value).ownBlock) (Kd.R_keptB ((Kd.R_apart' (Kd.R_apart' HO_279000.out (Kd.R_typed HO_293001.out) (by decide)) (Kd.R_typed HO_293002.out) (by decide))) hkp (fun k_ hk_ hs_ => Or.elim hs_ (fun e_ => (hk_.1.1.2) e_) (fun e_ => Or.elim e_ (fun e_ => (hk_.1.2) e_) (fun e_ => (hk_.2) e_)))) (fun k_ hk_ => ⟨hk_.1.1.1.1, hk_.1.1.1.2⟩)); replace HO_279001 := As.mk (Kd.R_mono (ok' := fun k_ => some k_ ≠ (.slice Ao30 t258.length co30 : Value).ownBlock ∧ some k_ ≠ (.slice Ao32 t261.length co32 : Value).ownBlock ∧ some k_ ≠ (.slice Ao47 t309.length co47 : Value).ownBlock ∧ some k_ ≠ (.slice Ao56 t284.length co56 : Value).ownBlock ∧ some k_ ≠ (.slice Ao58 t287.length co58 : Value).ownBlock) (Kd.R_keptB ((Kd.R_apart' HO_279001.out (Kd.R_typed HO_293000.out) (by decide))) hkp (fun k_ hk_ hs_ => Or.elim hs_ (fun e_ => (hk_.2) e_) (fun e_ => Or.elim e_ (fun e_ => (hk_.1.2.2.2.1) e_) (fun e_ => (hk_.1.2.2.2.2) e_)))) (fun k_ hk_ => ⟨hk_.1.1.1, hk_.1.1.2.1, hk_.1.1.2.2.1, hk_.1.1.2.2.2.1, hk_.1.1.2.2.2.2⟩)); replace HO_279002 := As.mk (Kd.R_mono (ok' := fun k_ => some k_ ≠ (.slice Ao30 t258.length co30 : Value).ownBlock ∧ some k_ ≠ (.slice Ao32 t261.length co32 : Value).ownBlock ∧ some k_ ≠ (.slice Ao46 t308.length co46 : Value).ownBlock ∧ some k_ ≠ (.slice Ao56 t284.length co56 : Value).ownBlock ∧ some k_ ≠ (.slice Ao58 t287.length co58 : Value).ownBlock) (Kd.R_keptB ((Kd.R_apart' HO_279002.out (Kd.R_typed HO_293000.out) (by decide))) hkp (fun k_ hk_ hs_ => Or.elim hs_ (fun e_ => (hk_.2) e_) (fun e_ => Or.elim e_ (fun e_ => (hk_.1.2.2.2.1) e_) (fun e_ => (hk_.1.2.2.2.2) e_)))) (fun k_ hk_ => ⟨hk_.1.1.1, hk_.1.1.2.1, hk_.1.1.2.2.1, hk_.1.1.2.2.2.1, hk_.1.1.2.2.2.2⟩)); replace BK239 := As.mk (blk_kept (bx BK239.out) hkp (fun hs_ => Or.elim hs_ (fun e_ => (fun e_ => (Kd.R_ne HO_293000.out BK239.out (by decide)) e_) e_) (fun e_ => Or.elim e_ (fun e_ => (fun e_ => (Kd.R_ne HO_293001.out BK239.out (by decide)) e_) e_) (fun e_ => (fun e_ => (Kd.R_ne HO_293002.out BK239.out (by decide)) e_) e_)))); replace BK240 := As.mk (blk_kept (bx BK240.out) hkp (fun hs_ => Or.elim hs_ (fun e_ => (fun e_ => (Kd.R_ne HO_293000.out BK240.out (by decide)) e_) e_) (fun e_ => Or.elim e_ (fun e_ => (fun e_ => (Kd.R_ne HO_293001.out BK240.out (by decide)) e_) e_) (fun e_ => (fun e_ => (Kd.R_ne HO_293002.out BK240.out (by decide)) e_) e_)))); replace BK266 := As.mk (blk_kept (bx BK266.out) hkp (fun hs_ => Or.elim hs_ (fun e_ => (fun e_ => (Kd.R_ne HO_293000.out BK266.out (by decide)) e_) e_) (fun e_ => Or.elim e_ (fun e_ => (fun e_ => (Kd.R_ne HO_293001.out BK266.out (by decide)) e_) e_) (fun e_ => (fun e_ => (Kd.R_ne HO_293002.out BK266.out (by decide)) e_) e_)))); replace BK278 := As.mk (blk_kept (bx BK278.out) hkp (fun hs_ => Or.elim hs_ (fun e_ => (fun e_ => (Kd.R_ne HO_293000.out BK278.out (by decide)) e_) e_) (fun e_ => Or.elim e_ (fun e_ => (fun e_ => (Kd.R_ne HO_293001.out BK278.out (by decide)) e_) e_) (fun e_ => (fun e_ => (Kd.R_ne HO_293002.out BK278.out (by decide)) e_) e_)))); replace BK292 := As.mk (blk_kept (bx BK292.out) hkp (fun hs_ => Or.elim hs_ (fun e_ => (fun e_ => (Kd.R_ne HO_293000.out BK292.out (by decide)) e_) e_) (fun e_ => Or.elim e_ (fun e_ => (fun e_ => (Kd.R_ne HO_293001.out BK292.out (by decide)) e_) e_) (fun e_ => (fun e_ => (Kd.R_ne HO_293002.out BK292.out (by decide)) e_) e_)))); replace HO_293000 := As.mk (Kd.R_reok rfl hy0 (fun k_ e_ => HO_293000.out.1 k_ e_)); replace HO_293001 := As.mk (Kd.R_reok rfl hy1 (fun k_ e_ => HO_293001.out.1 k_ e_)); replace HO_293002 := As.mk (Kd.R_reok rfl hy2 (fun k_ e_ => HO_293002.out.1 k_ e_)); replace HB := As.mk (hb); (try clear hb); (try clear hkp); (try clear hy0); (try clear hy1); (try clear hy2); obtain ⟨hcz112_0, hcz112_1, hcz112_2, hcz112_3, hcz112_4, hfz112_0, hfz112_1, hfz112_2, hfz112_3, hfz112_4⟩ := cl5 BK292.out) | ((with_reducible refine gate_callee (f := 29) rfl ?_); refine goesL_ (some 54) rfl rfl Try.func29 (by kernel_rfl) rfl #[.agg #[.slice Ao54 t312.length co54, .slice Ao56 t313.length co56, .slice Ao58 t314.length co58, .int .i64 t290, .int .i64 t291], .int .i64 1] rfl (by (try simp only [lm]); first | done | (rw [show t312.length = t281.length from (Kd.R_reads' HO_293000.out).1.symm, show t313.length = t284.length from (Kd.R_reads' HO_293001.out).1.symm, show t314.length = t287.length from (Kd.R_reads' HO_293002.out).1.symm] <;> rfl) | rfl | (simp only [List.length_drop, List.length_take]; rfl)) ?_; (with_reducible refine (laws_heldMemory.calls kj100 _ _ t312 _ _ t313 _ _ t314 t290 t291 1 t315 _ ?side1 ?side2 ?side3 ?side4 ?side5 ?side6 A104.out).mono ?_); (case side1 => repeat (first | exact (Kd.R_reads' HO_293000.out).2.2 | (with_reducible refine Kd.C_alloc ?_ _) | (with_reducible refine Kd.C_drewN ?_ _) | (with_reducible refine Kd.C_drew ?_))); (case side2 => rw [show t312.length = t281.length from (Kd.R_reads' HO_293000.out).1.symm]; exact (Kd.R_reads' HO_293000.out).2.1); (case side3 => repeat (first | exact (Kd.R_reads' HO_293001.out).2.2 | (with_reducible refine Kd.C_alloc ?_ _) | (with_reducible refine Kd.C_drewN ?_ _) | (with_reducible refine Kd.C_drew ?_))); (case side4 => rw [show t313.length = t284.length from (Kd.R_reads' HO_293001.out).1.symm]; exact (Kd.R_reads' HO_293001.out).2.1); (case side5 => repeat (first | exact (Kd.R_reads' HO_293002.out).2.2 | (with_reducible refine Kd.C_alloc ?_ _) | (with_reducible refine Kd.C_drewN ?_ _) | (with_reducible refine Kd.C_drew ?_))); (case side6 => rw [show t314.length = t287.length from (Kd.R_reads' HO_293002.out).1.symm]; exact (Kd.R_reads' HO_293002.out).2.1); rintro e w113 ⟨rfl, hb⟩; refine ⟨_, rfl, ?_⟩; replace HO_267000 := As.mk (Kd.R_below (by (with_reducible repeat (first | apply Kd.R_alloc | apply Kd.R_drewN | apply Kd.R_drew)); exact HO_267000.out) hb); replace HO_267001 := As.mk (Kd.R_below (by (with_reducible repeat (first | apply Kd.R_alloc | apply Kd.R_drewN | apply Kd.R_drew)); exact HO_267001.out) hb); replace HO_267002 := As.mk (Kd.R_below (by (with_reducible repeat (first | apply Kd.R_alloc | apply Kd.R_drewN | apply Kd.R_drew)); exact HO_267002.out) hb); replace HO_279000 := As.mk (Kd.R_below (by (with_reducible repeat (first | apply Kd.R_alloc | apply Kd.R_drewN | apply Kd.R_drew)); exact HO_279000.out) hb); replace HO_279001 := As.mk (Kd.R_below (by (with_reducible repeat (first | apply Kd.R_alloc | apply Kd.R_drewN | apply Kd.R_drew)); exact HO_279001.out) hb); replace HO_279002 := As.mk (Kd.R_below (by (with_reducible repeat (first | apply Kd.R_alloc | apply Kd.R_drewN | apply Kd.R_drew)); exact HO_279002.out) hb); replace HO_293000 := As.mk (Kd.R_below (by (with_reducible repeat (first | apply Kd.R_alloc | apply Kd.R_drewN | apply Kd.R_drew)); exact HO_293000.out) hb); replace HO_293001 := As.mk (Kd.R_below (by (with_reducible repeat (first | apply Kd.R_alloc | apply Kd.R_drewN | apply Kd.R_drew)); exact HO_293001.out) hb); replace HO_293002 := As.mk (Kd.R_below (by (with_reducible repeat (first | apply Kd.R_alloc | apply Kd.R_drewN | apply Kd.R_drew)); exact HO_293002.out) hb); replace BK239 := As.mk (blk_below (bx BK239.out) hb); replace BK240 := As.mk (blk_below (bx BK240.out) hb); replace BK266 := As.mk (blk_below (bx BK266.out) hb); replace BK278 := As.mk (blk_below (bx BK278.out) hb); replace BK292 := As.mk (blk_below (bx BK292.out) hb); replace HB := As.mk (below_step (be w) hb); (try clear hb); (try clear hb2); (try clear hk); (try clear hi)))
           (try simp only [pk])
           go_cut [] (fun wc => ∃ (kq : Nat), As (laws_FnExactFreed.j5 kq t311 t315 l0_0 l0_1 l0_2 a0_3 a0_4 a1_0 a1_1 t255 t258 t261 t264 t265 t312 t313 t314 t290 t291 = some r) ∧ As (kq ≤ kj100) ∧ As (Kd.R k93 93 wc w.heap.size (fun k_ => some k_ ≠ ((.slice Ao41 t307.length co41) : Value).ownBlock ∧ some k_ ≠ ((.slice Ao54 t281.length co54) : Value).ownBlock) (.slice Ao28 t255.length co28) t255) ∧ As (Kd.R (Kd.int .i64) 3 wc w.heap.size (fun k_ => some k_ ≠ ((.slice Ao32 t261.length co32) : Value).ownBlock ∧ some k_ ≠ ((.slice Ao46 t308.length co46) : Value).ownBlock ∧ some k_ ≠ ((.slice Ao47 t309.length co47) : Value).ownBlock ∧ some k_ ≠ ((.slice Ao56 t284.length co56) : Value).ownBlock ∧ some k_ ≠ ((.slice Ao58 t287.length co58) : Value).ownBlock) (.slice Ao30 t258.length co30) t258) ∧ As (Kd.R (Kd.int .i64) 3 wc w.heap.size (fun k_ => some k_ ≠ ((.slice Ao30 t258.length co30) : Value).ownBlock ∧ some k_ ≠ ((.slice Ao46 t308.length co46) : Value).ownBlock ∧ some k_ ≠ ((.slice Ao47 t309.length co47) : Value).ownBlock ∧ some k_ ≠ ((.slice Ao56 t284.length co56) : Value).ownBlock ∧ some k_ ≠ ((.slice Ao58 t287.length co58) : Value).ownBlock) (.slice Ao32 t261.length co32) t261) ∧ As (Kd.R k93 93 wc w.heap.size (fun k_ => some k_ ≠ ((.slice Ao28 t255.length co28) : Value).ownBlock ∧ some k_ ≠ ((.slice Ao54 t281.length co54) : Value).ownBlock) (.slice Ao41 t307.length co41) t307) ∧ As (Kd.R (Kd.int .i64) 3 wc w.heap.size (fun k_ => some k_ ≠ ((.slice Ao30 t258.length co30) : Value).ownBlock ∧ some k_ ≠ ((.slice Ao32 t261.length co32) : Value).ownBlock ∧ some k_ ≠ ((.slice Ao47 t309.length co47) : Value).ownBlock ∧ some k_ ≠ ((.slice Ao56 t284.length co56) : Value).ownBlock ∧ some k_ ≠ ((.slice Ao58 t287.length co58) : Value).ownBlock) (.slice Ao46 t308.length co46) t308) ∧ As (Kd.R (Kd.int .i64) 3 wc w.heap.size (fun k_ => some k_ ≠ ((.slice Ao30 t258.length co30) : Value).ownBlock ∧ some k_ ≠ ((.slice Ao32 t261.length co32) : Value).ownBlock ∧ some k_ ≠ ((.slice Ao46 t308.length co46) : Value).ownBlock ∧ some k_ ≠ ((.slice Ao56 t284.length co56) : Value).ownBlock ∧ some k_ ≠ ((.slice Ao58 t287.length co58) : Value).ownBlock) (.slice Ao47 t309.length co47) t309) ∧ As (Kd.R k93 93 wc w.heap.size (fun k_ => some k_ ≠ ((.slice Ao28 t255.length co28) : Value).ownBlock ∧ some k_ ≠ ((.slice Ao41 t307.length co41) : Value).ownBlock) (.slice Ao54 t281.length co54) t312) ∧ As (Kd.R (Kd.int .i64) 3 wc w.heap.size (fun k_ => some k_ ≠ ((.slice Ao30 t258.length co30) : Value).ownBlock ∧ some k_ ≠ ((.slice Ao32 t261.length co32) : Value).ownBlock ∧ some k_ ≠ ((.slice Ao46 t308.length co46) : Value).ownBlock ∧ some k_ ≠ ((.slice Ao47 t309.length co47) : Value).ownBlock ∧ some k_ ≠ ((.slice Ao58 t287.length co58) : Value).ownBlock) (.slice Ao56 t284.length co56) t313) ∧ As (Kd.R (Kd.int .i64) 3 wc w.heap.size (fun k_ => some k_ ≠ ((.slice Ao30 t258.length co30) : Value).ownBlock ∧ some k_ ≠ ((.slice Ao32 t261.length co32) : Value).ownBlock ∧ some k_ ≠ ((.slice Ao46 t308.length co46) : Value).ownBlock ∧ some k_ ≠ ((.slice Ao47 t309.length co47) : Value).ownBlock ∧ some k_ ≠ ((.slice Ao56 t284.length co56) : Value).ownBlock) (.slice Ao58 t287.length co58) t314) ∧ As (wc.heap[gb239]? = some (.cells #[(.slice A0_0 l0_0.length c0_0), (.slice A0_1 l0_1.length c0_1), (.slice A0_2 l0_2.length c0_2), .int .i64 a0_3, .int .i64 a0_4] 47 (0, 0))) ∧ As (wc.heap[gb240]? = some (.cells #[.int .i64 a1_0, .int .i64 a1_1] 48 (0, 0))) ∧ As (wc.heap[gb266]? = some (.cells #[(.slice Ao28 t255.length co28), (.slice Ao30 t258.length co30), (.slice Ao32 t261.length co32), .int .i64 t264, .int .i64 t265] 34 (0, 0))) ∧ As (wc.heap[gb278]? = some (.cells #[(.slice Ao41 t307.length co41), (.slice Ao46 t308.length co46), (.slice Ao47 t309.length co47), .int .i64 t276, .int .i64 t277] 34 (0, 0))) ∧ As (wc.heap[gb292]? = some (.cells #[(.slice Ao54 t281.length co54), (.slice Ao56 t284.length co56), (.slice Ao58 t287.length co58), .int .i64 t290, .int .i64 t291] 34 (0, 0))) ∧ As (Below w.heap.size w wc))
           case first =>
            have H := HC105.out
            clear HC105
            by_cases c114 : t315 < 0
            ·
             rw [if_pos c114] at H
             have c114b0 : decide (t315 < 0) = true := decide_eq_true c114
             clear c114
             (first | rw [c114b0] | (simp only [i64_w, i32_w]; rw [c114b0]) | skip)
             exact absurd H (by rw [hrt.out]; simp)
            rw [if_neg c114] at H
            have c114b0 : decide (t315 < 0) = false := decide_eq_false c114
            clear c114
            (first | rw [c114b0] | (simp only [i64_w, i32_w]; rw [c114b0]) | skip)
            have H' := As.mk H
            clear H
            go_wp2
            go_meet
            case rel => exact ⟨_, H', ⟨by have := HJ3.out; have := HJ17.out; have := HJ72.out; have := HJ81.out; have := HJ100.out; first | omega | exact Nat.le_refl _⟩, ⟨by (try simp only [hl279000_81]); (try simp only [hl279001_81]); (try simp only [hl279002_81]); (with_reducible repeat (first | apply Kd.R_alloc | apply Kd.R_drewN | apply Kd.R_drew)); exact HO_267000.out⟩, ⟨by (try simp only [hl279000_81]); (try simp only [hl279001_81]); (try simp only [hl279002_81]); (with_reducible repeat (first | apply Kd.R_alloc | apply Kd.R_drewN | apply Kd.R_drew)); exact HO_267001.out⟩, ⟨by (try simp only [hl279000_81]); (try simp only [hl279001_81]); (try simp only [hl279002_81]); (with_reducible repeat (first | apply Kd.R_alloc | apply Kd.R_drewN | apply Kd.R_drew)); exact HO_267002.out⟩, ⟨by (try simp only [hl279000_81]); (try simp only [hl279001_81]); (try simp only [hl279002_81]); (with_reducible repeat (first | apply Kd.R_alloc | apply Kd.R_drewN | apply Kd.R_drew)); exact HO_279000.out⟩, ⟨by (try simp only [hl279000_81]); (try simp only [hl279001_81]); (try simp only [hl279002_81]); (with_reducible repeat (first | apply Kd.R_alloc | apply Kd.R_drewN | apply Kd.R_drew)); exact HO_279001.out⟩, ⟨by (try simp only [hl279000_81]); (try simp only [hl279001_81]); (try simp only [hl279002_81]); (with_reducible repeat (first | apply Kd.R_alloc | apply Kd.R_drewN | apply Kd.R_drew)); exact HO_279002.out⟩, ⟨by (try simp only [hl279000_81]); (try simp only [hl279001_81]); (try simp only [hl279002_81]); (with_reducible repeat (first | apply Kd.R_alloc | apply Kd.R_drewN | apply Kd.R_drew)); exact HO_293000.out⟩, ⟨by (try simp only [hl279000_81]); (try simp only [hl279001_81]); (try simp only [hl279002_81]); (with_reducible repeat (first | apply Kd.R_alloc | apply Kd.R_drewN | apply Kd.R_drew)); exact HO_293001.out⟩, ⟨by (try simp only [hl279000_81]); (try simp only [hl279001_81]); (try simp only [hl279002_81]); (with_reducible repeat (first | apply Kd.R_alloc | apply Kd.R_drewN | apply Kd.R_drew)); exact HO_293002.out⟩, ⟨by (try simp only [hl279000_81]); (try simp only [hl279001_81]); (try simp only [hl279002_81]); exact bx BK239.out⟩, ⟨by (try simp only [hl279000_81]); (try simp only [hl279001_81]); (try simp only [hl279002_81]); exact bx BK240.out⟩, ⟨by (try simp only [hl279000_81]); (try simp only [hl279001_81]); (try simp only [hl279002_81]); exact bx BK266.out⟩, ⟨by (try simp only [hl279000_81]); (try simp only [hl279001_81]); (try simp only [hl279002_81]); exact bx BK278.out⟩, ⟨by (try simp only [hl279000_81]); (try simp only [hl279001_81]); (try simp only [hl279002_81]); exact bx BK292.out⟩, ⟨be w⟩⟩
           case rest =>
            clear HC105
            (try clear hcz110_0); (try clear hcz110_1); (try clear hcz110_2); (try clear hcz110_3); (try clear hcz110_4); (try clear hcz112_0); (try clear hcz112_1); (try clear hcz112_2); (try clear hcz112_3); (try clear hcz112_4); (try clear hcz66_0); (try clear hcz66_1); (try clear hcz66_2); (try clear hcz66_3); (try clear hcz66_4); (try clear hcz68_0); (try clear hcz68_1); (try clear hcz68_2); (try clear hcz68_3); (try clear hcz68_4); (try clear hcz87_0); (try clear hcz87_1); (try clear hcz87_2); (try clear hcz87_3); (try clear hcz87_4); (try clear hfz110_0); (try clear hfz110_1); (try clear hfz110_2); (try clear hfz110_3); (try clear hfz110_4); (try clear hfz112_0); (try clear hfz112_1); (try clear hfz112_2); (try clear hfz112_3); (try clear hfz112_4); (try clear hfz66_0); (try clear hfz66_1); (try clear hfz66_2); (try clear hfz66_3); (try clear hfz66_4); (try clear hfz68_0); (try clear hfz68_1); (try clear hfz68_2); (try clear hfz68_3); (try clear hfz68_4); (try clear hfz87_0); (try clear hfz87_1); (try clear hfz87_2); (try clear hfz87_3); (try clear hfz87_4)
            obtain ⟨kq, HA, HJ104, HO_267000, HO_267001, HO_267002, HO_279000, HO_279001, HO_279002, HO_293000, HO_293001, HO_293002, BK239, BK240, BK266, BK278, BK292, HB⟩ := hcut
            have hl293000_104 := (Kd.R_reads' HO_293000.out).1
            rw [hl293000_104] at HO_293000
            (try simp only [hl293000_104])
            (try simp only [hl293000_104] at BK239)
            (try simp only [hl293000_104] at BK240)
            (try simp only [hl293000_104] at BK266)
            (try simp only [hl293000_104] at BK278)
            (try simp only [hl293000_104] at BK292)
            (try simp only [hl293000_104] at HO_267000)
            (try simp only [hl293000_104] at HO_267001)
            (try simp only [hl293000_104] at HO_267002)
            (try simp only [hl293000_104] at HO_279000)
            (try simp only [hl293000_104] at HO_279001)
            (try simp only [hl293000_104] at HO_279002)
            (try simp only [hl293000_104] at HO_293001)
            (try simp only [hl293000_104] at HO_293002)
            have hl293001_104 := (Kd.R_reads' HO_293001.out).1
            rw [hl293001_104] at HO_293001
            (try simp only [hl293001_104])
            (try simp only [hl293001_104] at BK239)
            (try simp only [hl293001_104] at BK240)
            (try simp only [hl293001_104] at BK266)
            (try simp only [hl293001_104] at BK278)
            (try simp only [hl293001_104] at BK292)
            (try simp only [hl293001_104] at HO_267000)
            (try simp only [hl293001_104] at HO_267001)
            (try simp only [hl293001_104] at HO_267002)
            (try simp only [hl293001_104] at HO_279000)
            (try simp only [hl293001_104] at HO_279001)
            (try simp only [hl293001_104] at HO_279002)
            (try simp only [hl293001_104] at HO_293000)
            (try simp only [hl293001_104] at HO_293002)
            have hl293002_104 := (Kd.R_reads' HO_293002.out).1
            rw [hl293002_104] at HO_293002
            (try simp only [hl293002_104])
            (try simp only [hl293002_104] at BK239)
            (try simp only [hl293002_104] at BK240)
            (try simp only [hl293002_104] at BK266)
            (try simp only [hl293002_104] at BK278)
            (try simp only [hl293002_104] at BK292)
            (try simp only [hl293002_104] at HO_267000)
            (try simp only [hl293002_104] at HO_267001)
            (try simp only [hl293002_104] at HO_267002)
            (try simp only [hl293002_104] at HO_279000)
            (try simp only [hl293002_104] at HO_279001)
            (try simp only [hl293002_104] at HO_279002)
            (try simp only [hl293002_104] at HO_293000)
            (try simp only [hl293002_104] at HO_293001)
            cases kq with
            | zero => exact absurd HA.out (by simp [laws_FnExactFreed.j5])
            | succ kj104 =>
             have H := HA.out
             clear HA
             simp only [laws_FnExactFreed.j5] at H
             have HC115 := As.mk H
             clear H
             go_upto_if 59 with (fail)
             go_cut [] (fun wc => ∃ (kq : Nat), As (laws_FnExactFreed.j6 kq t311 l0_0 l0_1 l0_2 a0_3 a0_4 a1_0 a1_1 t255 t258 t261 t264 t265 t312 t313 t314 t290 t291 = some r) ∧ As (kq ≤ kj104) ∧ As (Kd.R k93 93 wc w.heap.size (fun k_ => some k_ ≠ ((.slice Ao41 t307.length co41) : Value).ownBlock ∧ some k_ ≠ ((.slice Ao54 t312.length co54) : Value).ownBlock) (.slice Ao28 t255.length co28) t255) ∧ As (Kd.R (Kd.int .i64) 3 wc w.heap.size (fun k_ => some k_ ≠ ((.slice Ao32 t261.length co32) : Value).ownBlock ∧ some k_ ≠ ((.slice Ao46 t308.length co46) : Value).ownBlock ∧ some k_ ≠ ((.slice Ao47 t309.length co47) : Value).ownBlock ∧ some k_ ≠ ((.slice Ao56 t313.length co56) : Value).ownBlock ∧ some k_ ≠ ((.slice Ao58 t314.length co58) : Value).ownBlock) (.slice Ao30 t258.length co30) t258) ∧ As (Kd.R (Kd.int .i64) 3 wc w.heap.size (fun k_ => some k_ ≠ ((.slice Ao30 t258.length co30) : Value).ownBlock ∧ some k_ ≠ ((.slice Ao46 t308.length co46) : Value).ownBlock ∧ some k_ ≠ ((.slice Ao47 t309.length co47) : Value).ownBlock ∧ some k_ ≠ ((.slice Ao56 t313.length co56) : Value).ownBlock ∧ some k_ ≠ ((.slice Ao58 t314.length co58) : Value).ownBlock) (.slice Ao32 t261.length co32) t261) ∧ As (Kd.R k93 93 wc w.heap.size (fun k_ => some k_ ≠ ((.slice Ao28 t255.length co28) : Value).ownBlock ∧ some k_ ≠ ((.slice Ao54 t312.length co54) : Value).ownBlock) (.slice Ao41 t307.length co41) t307) ∧ As (Kd.R (Kd.int .i64) 3 wc w.heap.size (fun k_ => some k_ ≠ ((.slice Ao30 t258.length co30) : Value).ownBlock ∧ some k_ ≠ ((.slice Ao32 t261.length co32) : Value).ownBlock ∧ some k_ ≠ ((.slice Ao47 t309.length co47) : Value).ownBlock ∧ some k_ ≠ ((.slice Ao56 t313.length co56) : Value).ownBlock ∧ some k_ ≠ ((.slice Ao58 t314.length co58) : Value).ownBlock) (.slice Ao46 t308.length co46) t308) ∧ As (Kd.R (Kd.int .i64) 3 wc w.heap.size (fun k_ => some k_ ≠ ((.slice Ao30 t258.length co30) : Value).ownBlock ∧ some k_ ≠ ((.slice Ao32 t261.length co32) : Value).ownBlock ∧ some k_ ≠ ((.slice Ao46 t308.length co46) : Value).ownBlock ∧ some k_ ≠ ((.slice Ao56 t313.length co56) : Value).ownBlock ∧ some k_ ≠ ((.slice Ao58 t314.length co58) : Value).ownBlock) (.slice Ao47 t309.length co47) t309) ∧ As (Kd.R k93 93 wc w.heap.size (fun k_ => some k_ ≠ ((.slice Ao28 t255.length co28) : Value).ownBlock ∧ some k_ ≠ ((.slice Ao41 t307.length co41) : Value).ownBlock) (.slice Ao54 t312.length co54) t312) ∧ As (Kd.R (Kd.int .i64) 3 wc w.heap.size (fun k_ => some k_ ≠ ((.slice Ao30 t258.length co30) : Value).ownBlock ∧ some k_ ≠ ((.slice Ao32 t261.length co32) : Value).ownBlock ∧ some k_ ≠ ((.slice Ao46 t308.length co46) : Value).ownBlock ∧ some k_ ≠ ((.slice Ao47 t309.length co47) : Value).ownBlock ∧ some k_ ≠ ((.slice Ao58 t314.length co58) : Value).ownBlock) (.slice Ao56 t313.length co56) t313) ∧ As (Kd.R (Kd.int .i64) 3 wc w.heap.size (fun k_ => some k_ ≠ ((.slice Ao30 t258.length co30) : Value).ownBlock ∧ some k_ ≠ ((.slice Ao32 t261.length co32) : Value).ownBlock ∧ some k_ ≠ ((.slice Ao46 t308.length co46) : Value).ownBlock ∧ some k_ ≠ ((.slice Ao47 t309.length co47) : Value).ownBlock ∧ some k_ ≠ ((.slice Ao56 t313.length co56) : Value).ownBlock) (.slice Ao58 t314.length co58) t314) ∧ As (wc.heap[gb239]? = some (.cells #[(.slice A0_0 l0_0.length c0_0), (.slice A0_1 l0_1.length c0_1), (.slice A0_2 l0_2.length c0_2), .int .i64 a0_3, .int .i64 a0_4] 47 (0, 0))) ∧ As (wc.heap[gb240]? = some (.cells #[.int .i64 a1_0, .int .i64 a1_1] 48 (0, 0))) ∧ As (wc.heap[gb266]? = some (.cells #[(.slice Ao28 t255.length co28), (.slice Ao30 t258.length co30), (.slice Ao32 t261.length co32), .int .i64 t264, .int .i64 t265] 34 (0, 0))) ∧ As (wc.heap[gb278]? = some (.cells #[(.slice Ao41 t307.length co41), (.slice Ao46 t308.length co46), (.slice Ao47 t309.length co47), .int .i64 t276, .int .i64 t277] 34 (0, 0))) ∧ As (wc.heap[gb292]? = some (.cells #[(.slice Ao54 t312.length co54), (.slice Ao56 t313.length co56), (.slice Ao58 t314.length co58), .int .i64 t290, .int .i64 t291] 34 (0, 0))) ∧ As (Below w.heap.size w wc))
             case first =>
              have H := HC115.out
              clear HC115
              by_cases c116 : t315 = t311
              rotate_left
              ·
               rw [if_neg c116] at H
               have c116b0 : (t315 == t311) = false := beq_eq_false_iff_ne.mpr c116
               have c116b1 : (t315 != t311) = true := bne_iff_ne.mpr c116
               (first | rw [c116b0] | (simp only [i64_w, i32_w]; rw [c116b0]) | skip)
               exact absurd H (by rw [hrt.out]; simp)
              rw [if_pos c116] at H
              have c116b0 : (t315 == t311) = true := beq_iff_eq.mpr c116
              have c116b1 : (t315 != t311) = false := bne_eq_false_iff_eq.mpr c116
              clear c116
              (first | rw [c116b0] | (simp only [i64_w, i32_w]; rw [c116b0]) | skip)
              have H' := As.mk H
              clear H
              go_wp2
              go_meet
              case rel => exact ⟨_, H', ⟨by have := HJ3.out; have := HJ17.out; have := HJ72.out; have := HJ81.out; have := HJ100.out; have := HJ104.out; first | omega | exact Nat.le_refl _⟩, ⟨by (try simp only [hl279000_81]); (try simp only [hl279001_81]); (try simp only [hl279002_81]); (try simp only [hl293000_104]); (try simp only [hl293001_104]); (try simp only [hl293002_104]); (with_reducible repeat (first | apply Kd.R_alloc | apply Kd.R_drewN | apply Kd.R_drew)); exact HO_267000.out⟩, ⟨by (try simp only [hl279000_81]); (try simp only [hl279001_81]); (try simp only [hl279002_81]); (try simp only [hl293000_104]); (try simp only [hl293001_104]); (try simp only [hl293002_104]); (with_reducible repeat (first | apply Kd.R_alloc | apply Kd.R_drewN | apply Kd.R_drew)); exact HO_267001.out⟩, ⟨by (try simp only [hl279000_81]); (try simp only [hl279001_81]); (try simp only [hl279002_81]); (try simp only [hl293000_104]); (try simp only [hl293001_104]); (try simp only [hl293002_104]); (with_reducible repeat (first | apply Kd.R_alloc | apply Kd.R_drewN | apply Kd.R_drew)); exact HO_267002.out⟩, ⟨by (try simp only [hl279000_81]); (try simp only [hl279001_81]); (try simp only [hl279002_81]); (try simp only [hl293000_104]); (try simp only [hl293001_104]); (try simp only [hl293002_104]); (with_reducible repeat (first | apply Kd.R_alloc | apply Kd.R_drewN | apply Kd.R_drew)); exact HO_279000.out⟩, ⟨by (try simp only [hl279000_81]); (try simp only [hl279001_81]); (try simp only [hl279002_81]); (try simp only [hl293000_104]); (try simp only [hl293001_104]); (try simp only [hl293002_104]); (with_reducible repeat (first | apply Kd.R_alloc | apply Kd.R_drewN | apply Kd.R_drew)); exact HO_279001.out⟩, ⟨by (try simp only [hl279000_81]); (try simp only [hl279001_81]); (try simp only [hl279002_81]); (try simp only [hl293000_104]); (try simp only [hl293001_104]); (try simp only [hl293002_104]); (with_reducible repeat (first | apply Kd.R_alloc | apply Kd.R_drewN | apply Kd.R_drew)); exact HO_279002.out⟩, ⟨by (try simp only [hl279000_81]); (try simp only [hl279001_81]); (try simp only [hl279002_81]); (try simp only [hl293000_104]); (try simp only [hl293001_104]); (try simp only [hl293002_104]); (with_reducible repeat (first | apply Kd.R_alloc | apply Kd.R_drewN | apply Kd.R_drew)); exact HO_293000.out⟩, ⟨by (try simp only [hl279000_81]); (try simp only [hl279001_81]); (try simp only [hl279002_81]); (try simp only [hl293000_104]); (try simp only [hl293001_104]); (try simp only [hl293002_104]); (with_reducible repeat (first | apply Kd.R_alloc | apply Kd.R_drewN | apply Kd.R_drew)); exact HO_293001.out⟩, ⟨by (try simp only [hl279000_81]); (try simp only [hl279001_81]); (try simp only [hl279002_81]); (try simp only [hl293000_104]); (try simp only [hl293001_104]); (try simp only [hl293002_104]); (with_reducible repeat (first | apply Kd.R_alloc | apply Kd.R_drewN | apply Kd.R_drew)); exact HO_293002.out⟩, ⟨by (try simp only [hl279000_81]); (try simp only [hl279001_81]); (try simp only [hl279002_81]); (try simp only [hl293000_104]); (try simp only [hl293001_104]); (try simp only [hl293002_104]); exact bx BK239.out⟩, ⟨by (try simp only [hl279000_81]); (try simp only [hl279001_81]); (try simp only [hl279002_81]); (try simp only [hl293000_104]); (try simp only [hl293001_104]); (try simp only [hl293002_104]); exact bx BK240.out⟩, ⟨by (try simp only [hl279000_81]); (try simp only [hl279001_81]); (try simp only [hl279002_81]); (try simp only [hl293000_104]); (try simp only [hl293001_104]); (try simp only [hl293002_104]); exact bx BK266.out⟩, ⟨by (try simp only [hl279000_81]); (try simp only [hl279001_81]); (try simp only [hl279002_81]); (try simp only [hl293000_104]); (try simp only [hl293001_104]); (try simp only [hl293002_104]); exact bx BK278.out⟩, ⟨by (try simp only [hl279000_81]); (try simp only [hl279001_81]); (try simp only [hl279002_81]); (try simp only [hl293000_104]); (try simp only [hl293001_104]); (try simp only [hl293002_104]); exact bx BK292.out⟩, ⟨be w⟩⟩
             case rest =>
              (repeat revert ‹List S93›)
              (repeat revert ‹S93›)
              (repeat revert ‹List S98›)
              (repeat revert ‹S98›)
              (repeat revert ‹Nat›)
              (repeat revert ‹Int›)
              (repeat revert ‹Bool›)
              (repeat revert ‹Value›)
              (repeat revert ‹World›)
              (repeat revert ‹Option Addr›)
              (repeat revert ‹ByteArray›)
              (repeat revert ‹List Int›)
              (repeat revert ‹List ByteArray›)
              (repeat revert ‹List Value›)
              (repeat revert ‹Act → World → Prop›)
              (repeat revert ‹Act›)
              exact hG_.out⟩

end Go.Proofs.Ytnlhjblfemgggaa.PFnExactFreed
