/- Written by a program of this session (a turned copy of the kit's print): a contract for each Go function. No condition beside those in each statement. -/
import Derived.Test.YtnlhjblfemgggaaPFnExactFreedx0
import Derived.Test.YtnlhjblfemgggaaPFnExactFreedx1
namespace Go.Proofs.Ytnlhjblfemgggaa.PFnExactFreed
open Go.RowKit Go.Proofs.YtnlhjblfemgggaaW.PrintWords Go.Proofs.YtnlhjblfemgggaaW.PrintLast Go.Proofs.YtnlhjblfemgggaaW.PrintMore
attribute [local go_sem] max2_int min2_int max_two min_two max_three min_three max_four min_four   -- for this text's walks alone
set_option linter.unusedVariables false
set_option linter.unusedSimpArgs false

/-! ### impl_Freed: function 22 -/
def impl_Freed.f (l0_0 : List (S93)) (l0_1 : List Int) (l0_2 : List Int) (a0_3 : Int) (a0_4 : Int) (a1_0 : Int) (a1_1 : Int) : Option ((List (S93)) × List Int × List Int × Int × Int) := (impl_copyMemory.f l0_0 l0_1 l0_2 a0_3 a0_4).bind fun bt120 => (if bt120.2.2.2.2 = 0 then (if a1_0 = 2 then ((impl_in.f a1_1 0 (wrap64 ((bt120.1.length : Int) - 1))).bind fun t133 => (if t133 = true then (if 0 ≤ a1_1 then (if a1_1 < (bt120.1.length : Int) then (some ((bt120.1.set (a1_1 : Int).toNat (⟨false, (rd_T93 bt120.1 a1_1).f1⟩ : S93)), bt120.2.1, bt120.2.2.1, bt120.2.2.2.1, bt120.2.2.2.2)) else (none)) else (none)) else (some (bt120.1, bt120.2.1, bt120.2.2.1, bt120.2.2.2.1, bt120.2.2.2.2)))) else (some (bt120.1, bt120.2.1, bt120.2.2.1, bt120.2.2.2.1, bt120.2.2.2.2))) else (some (bt120.1, bt120.2.1, bt120.2.2.1, bt120.2.2.2.1, bt120.2.2.2.2)))
set_option maxHeartbeats 8000000 in
set_option maxRecDepth 100000 in
theorem impl_Freed.calls (A0_0 : Option Addr) (c0_0 : Nat) (l0_0 : List (S93)) (A0_1 : Option Addr) (c0_1 : Nat) (l0_1 : List Int) (A0_2 : Option Addr) (c0_2 : Nat) (l0_2 : List Int) (a0_3 : Int) (a0_4 : Int) (a1_0 : Int) (a1_1 : Int) (r1 : List (S93)) (r2 : List Int) (r3 : List Int) (r4 : Int) (r5 : Int) (w : World) (hr0_0 : Kd.C k93 w A0_0 l0_0.length l0_0) (hc0_0 : l0_0.length ≤ c0_0) (hr0_1 : Kd.C (Kd.int .i64) w A0_1 l0_1.length l0_1) (hc0_1 : l0_1.length ≤ c0_1) (hr0_2 : Kd.C (Kd.int .i64) w A0_2 l0_2.length l0_2) (hc0_2 : l0_2.length ≤ c0_2) (h : impl_Freed.f l0_0 l0_1 l0_2 a0_3 a0_4 a1_0 a1_1 = some (r1, r2, r3, r4, r5)) :
  Calls Try.prog 22 #[.agg #[.slice A0_0 l0_0.length c0_0, .slice A0_1 l0_1.length c0_1, .slice A0_2 l0_2.length c0_2, .int .i64 a0_3, .int .i64 a0_4], .agg #[.int .i64 a1_0, .int .i64 a1_1]] w fun e w' => ∃ v0_ v1_ v2_ : Value, e = .returned (.agg #[v0_, v1_, v2_, .int .i64 r4, .int .i64 r5]) ∧ Kd.R k93 93 w' w.heap.size (fun _ => True) v0_ r1 ∧ Kd.R (Kd.int .i64) 3 w' w.heap.size (fun k_ => some k_ ≠ (v2_ : Value).ownBlock) v1_ r2 ∧ Kd.R (Kd.int .i64) 3 w' w.heap.size (fun k_ => some k_ ≠ (v1_ : Value).ownBlock) v2_ r3 ∧ Below w.heap.size w w' := by
 have hu34 := Try.underlying34
 have hu37 := Try.underlying37
 have HR0_0 := As.mk hr0_0
 have HC0_0 := As.mk hc0_0
 clear hr0_0 hc0_0
 have HR0_1 := As.mk hr0_1
 have HC0_1 := As.mk hc0_1
 clear hr0_1 hc0_1
 have HR0_2 := As.mk hr0_2
 have HC0_2 := As.mk hc0_2
 clear hr0_2 hc0_2
 have HB := As.mk (Below.refl w.heap.size w)
 have H : ((impl_copyMemory.f l0_0 l0_1 l0_2 a0_3 a0_4).bind fun bt120 => (if bt120.2.2.2.2 = 0 then (if a1_0 = 2 then ((impl_in.f a1_1 0 (wrap64 ((bt120.1.length : Int) - 1))).bind fun t133 => (if t133 = true then (if 0 ≤ a1_1 then (if a1_1 < (bt120.1.length : Int) then (some ((bt120.1.set (a1_1 : Int).toNat (⟨false, (rd_T93 bt120.1 a1_1).f1⟩ : S93)), bt120.2.1, bt120.2.2.1, bt120.2.2.2.1, bt120.2.2.2.2)) else (none)) else (none)) else (some (bt120.1, bt120.2.1, bt120.2.2.1, bt120.2.2.2.1, bt120.2.2.2.2)))) else (some (bt120.1, bt120.2.1, bt120.2.2.1, bt120.2.2.2.1, bt120.2.2.2.2))) else (some (bt120.1, bt120.2.1, bt120.2.2.1, bt120.2.2.2.1, bt120.2.2.2.2)))) = some (r1, r2, r3, r4, r5) := h
 clear h
 obtain ⟨⟨t120, t123, t126, t129, t130⟩, A30, H⟩ := Option.bind_eq_some_iff.mp H
 try dsimp only at H
 have A3 := As.mk A30
 clear A30
 by_cases c4 : t130 = 0
 rotate_left
 ·
  rw [if_neg c4] at H
  have c4b0 : (t130 == 0) = false := beq_eq_false_iff_ne.mpr c4
  have c4b1 : (t130 != 0) = true := bne_iff_ne.mpr c4
  simp only [Option.some.injEq, Prod.mk.injEq] at H
  obtain ⟨rfl, rfl, rfl, rfl, rfl⟩ := H
  go_enter Try.func22, Try.ntmps22
  try go_wp2_with (first | ((with_reducible refine gate_dst (N := 2) rfl ?_); refine box_event ?hg (N := 2) ?hd (cs := #[.slice A0_0 l0_0.length c0_0, .slice A0_1 l0_1.length c0_1, .slice A0_2 l0_2.length c0_2, .int .i64 a0_3, .int .i64 a0_4]) (t := 34) ?hr ?_; (case hd => rfl); (case hg => rfl); (case hr => first | (go_simp; done) | (go_simp; rfl)); intro gb117 hg w74 hbox hb; have BK117 := As.mk (hbox); have GW117 := As.mk (gs w hg); have GE117 := As.mk (gs w hg); replace HB := As.mk (below_step (be w) hb); clear hb hbox hg) | ((with_reducible refine gate_dst (N := 3) rfl ?_); refine box_event ?hg (N := 3) ?hd (cs := #[.int .i64 a1_0, .int .i64 a1_1]) (t := 37) ?hr ?_; (case hd => rfl); (case hg => rfl); (case hr => first | (go_simp; done) | (go_simp; rfl)); intro gb118 hg w75 hbox hb; have BK118 := As.mk (hbox); have GW118 := As.mk (gs w hg); have GE118 := As.mk (gs w hg); replace HB := As.mk (below_step (be w) hb); have NB117_118 := As.mk (nl hg (bx BK117.out)); have NB118_117 := As.mk (ng hg (bx BK117.out)); replace BK117 := As.mk (blk_below (bx BK117.out) hb); clear hb hbox hg) | ((with_reducible refine gate_dst (N := 4) rfl ?_); refine box_event ?hg (N := 4) ?hd (cs := #[.slice none 0 0, .slice none 0 0, .slice none 0 0, .int .i64 0, .int .i64 0]) (t := 34) ?hr ?_; (case hd => rfl); (case hg => rfl); (case hr => first | (go_simp; done) | (go_simp; rfl)); intro gb119 hg w76 hbox hb; have BK119 := As.mk (hbox); have GW119 := As.mk (gs w hg); have GE119 := As.mk (gs w hg); replace HB := As.mk (below_step (be w) hb); have NB117_119 := As.mk (nl hg (bx BK117.out)); have NB119_117 := As.mk (ng hg (bx BK117.out)); replace BK117 := As.mk (blk_below (bx BK117.out) hb); have NB118_119 := As.mk (nl hg (bx BK118.out)); have NB119_118 := As.mk (ng hg (bx BK118.out)); replace BK118 := As.mk (blk_below (bx BK118.out) hb); clear hb hbox hg; have hnb77 := NB117_118.out; have hnc77 := NB118_117.out; have hnb78 := NB117_119.out; have hnc78 := NB119_117.out; obtain ⟨hcz79_0, hcz79_1, hcz79_2, hcz79_3, hcz79_4, hfz79_0, hfz79_1, hfz79_2, hfz79_3, hfz79_4⟩ := cl5 BK117.out) | ((with_reducible refine gate_callee (f := 42) rfl ?_); refine goesL_ (some 7) rfl rfl Try.func42 (by kernel_rfl) rfl #[.agg #[.slice A0_0 l0_0.length c0_0, .slice A0_1 l0_1.length c0_1, .slice A0_2 l0_2.length c0_2, .int .i64 a0_3, .int .i64 a0_4]] rfl (by (try simp only [lm]); first | done | rfl | (simp only [List.length_drop, List.length_take]; rfl)) ?_; (with_reducible refine (impl_copyMemory.calls _ _ l0_0 _ _ l0_1 _ _ l0_2 a0_3 a0_4 t120 t123 t126 t129 t130 _ ?side1 ?side2 ?side3 ?side4 ?side5 ?side6 A3.out).mono ?_); (case side1 => exact Kd.C_below HR0_0.out (be w)); (case side2 => exact HC0_0.out); (case side3 => exact Kd.C_below HR0_1.out (be w)); (case side4 => exact HC0_1.out); (case side5 => exact Kd.C_below HR0_2.out (be w)); (case side6 => exact HC0_2.out); rintro e w80 ⟨v121, v124, v127, rfl, ho0, ho1, ho2, hb⟩; refine ⟨_, rfl, ?_⟩; have HO122 := As.mk (Kd.R_lower ho0 (below_size (be w))); have HO125 := As.mk (Kd.R_lower ho1 (below_size (be w))); have HO128 := As.mk (Kd.R_lower ho2 (below_size (be w))); replace BK118 := As.mk (blk_below (bx BK118.out) hb); replace BK119 := As.mk (blk_below (bx BK119.out) hb); replace HB := As.mk (below_step (be w) hb); (try clear hb); (try clear hb2); (try clear hk); (try clear hi); (try clear ho0); (try clear ho1); (try clear ho2)) | ((with_reducible refine gate_dst (N := 5) rfl ?_); refine box_event ?hg (N := 5) ?hd (cs := #[.slice none 0 0, .slice none 0 0, .slice none 0 0, .int .i64 0, .int .i64 0]) (t := 34) ?hr ?_; (case hd => rfl); (case hg => rfl); (case hr => first | (go_simp; done) | (go_simp; rfl)); intro gb131 hg w81 hbox hb; replace HO122 := As.mk (Kd.R_below (by (with_reducible repeat (first | apply Kd.R_alloc | apply Kd.R_drewN | apply Kd.R_drew)); exact HO122.out) hb); replace HO125 := As.mk (Kd.R_below (by (with_reducible repeat (first | apply Kd.R_alloc | apply Kd.R_drewN | apply Kd.R_drew)); exact HO125.out) hb); replace HO128 := As.mk (Kd.R_below (by (with_reducible repeat (first | apply Kd.R_alloc | apply Kd.R_drewN | apply Kd.R_drew)); exact HO128.out) hb); have BK131 := As.mk (hbox); have GW131 := As.mk (gs w hg); have GE131 := As.mk (gs w hg); replace HB := As.mk (below_step (be w) hb); have NB118_131 := As.mk (nl hg (bx BK118.out)); have NB131_118 := As.mk (ng hg (bx BK118.out)); replace BK118 := As.mk (blk_below (bx BK118.out) hb); have NB119_131 := As.mk (nl hg (bx BK119.out)); have NB131_119 := As.mk (ng hg (bx BK119.out)); replace BK119 := As.mk (blk_below (bx BK119.out) hb); clear hb hbox hg; obtain ⟨Ao82, co82, eo82⟩ := Kd.R_slice HO122.out; subst eo82; have hnb83 := NB131_118.out; have hnc83 := NB118_131.out; have hnb84 := NB131_119.out; have hnc84 := NB119_131.out; obtain ⟨hcz85_0, hcz85_1, hcz85_2, hcz85_3, hcz85_4, hfz85_0, hfz85_1, hfz85_2, hfz85_3, hfz85_4⟩ := cl5 BK131.out; obtain ⟨Ao86, co86, eo86⟩ := Kd.R_slice HO125.out; subst eo86; obtain ⟨Ao87, co87, eo87⟩ := Kd.R_slice HO128.out; subst eo87; have hnb88 := NB118_119.out; have hnc88 := NB119_118.out; obtain ⟨hcz89_0, hcz89_1, hfz89_0, hfz89_1⟩ := cl2 BK118.out) | (go_at_call 47; go_in) | ((with_reducible refine gate_dst (N := 3) rfl ?_); refine box_event ?hg (N := 3) ?hd (cs := #[.int .i64 a1_0, .int .i64 a1_1]) (t := 37) ?hr ?_; (case hd => rfl); (case hg => rfl); (case hr => first | (go_simp; done) | (go_simp; rfl)); intro gb132 hg w90 hbox hb; replace HO122 := As.mk (Kd.R_below (by (with_reducible repeat (first | apply Kd.R_alloc | apply Kd.R_drewN | apply Kd.R_drew)); exact (Kd.R_mono (Kd.R_far (p := ⟨gb131, 4, none⟩) (Kd.R_far (p := ⟨gb131, 3, none⟩) (Kd.R_far (p := ⟨gb131, 2, none⟩) (Kd.R_far (p := ⟨gb131, 1, none⟩) (Kd.R_far (p := ⟨gb131, 0, none⟩) (Kd.R_types HO122.out BK131.out (by decide)) (fun _ hk => hk.2) (.slice Ao82 t120.length co82)) (fun _ hk => hk.2) (.slice Ao86 t123.length co86)) (fun _ hk => hk.2) (.slice Ao87 t126.length co87)) (fun _ hk => hk.2) (.int .i64 t129)) (fun _ hk => hk.2) (.int .i64 t130)) (fun _ h_ => h_.1))) hb); replace HO125 := As.mk (Kd.R_below (by (with_reducible repeat (first | apply Kd.R_alloc | apply Kd.R_drewN | apply Kd.R_drew)); exact (Kd.R_mono (Kd.R_far (p := ⟨gb131, 4, none⟩) (Kd.R_far (p := ⟨gb131, 3, none⟩) (Kd.R_far (p := ⟨gb131, 2, none⟩) (Kd.R_far (p := ⟨gb131, 1, none⟩) (Kd.R_far (p := ⟨gb131, 0, none⟩) (Kd.R_types HO125.out BK131.out (by decide)) (fun _ hk => hk.2) (.slice Ao82 t120.length co82)) (fun _ hk => hk.2) (.slice Ao86 t123.length co86)) (fun _ hk => hk.2) (.slice Ao87 t126.length co87)) (fun _ hk => hk.2) (.int .i64 t129)) (fun _ hk => hk.2) (.int .i64 t130)) (fun _ h_ => h_.1))) hb); replace HO128 := As.mk (Kd.R_below (by (with_reducible repeat (first | apply Kd.R_alloc | apply Kd.R_drewN | apply Kd.R_drew)); exact (Kd.R_mono (Kd.R_far (p := ⟨gb131, 4, none⟩) (Kd.R_far (p := ⟨gb131, 3, none⟩) (Kd.R_far (p := ⟨gb131, 2, none⟩) (Kd.R_far (p := ⟨gb131, 1, none⟩) (Kd.R_far (p := ⟨gb131, 0, none⟩) (Kd.R_types HO128.out BK131.out (by decide)) (fun _ hk => hk.2) (.slice Ao82 t120.length co82)) (fun _ hk => hk.2) (.slice Ao86 t123.length co86)) (fun _ hk => hk.2) (.slice Ao87 t126.length co87)) (fun _ hk => hk.2) (.int .i64 t129)) (fun _ hk => hk.2) (.int .i64 t130)) (fun _ h_ => h_.1))) hb); have BK132 := As.mk (hbox); have GW132 := As.mk (gs w hg); have GE132 := As.mk (gs w hg); replace HB := As.mk (below_step (be w) hb); have NB118_132 := As.mk ((by rw [hg]; exact Nat.ne_of_lt (blk_lt (g := gb118) (o := .cells #[.int .i64 a1_0, .int .i64 a1_1] 37 (0, 0)) (by refine pl ?_; refine blk_far ?_ NB118_131.out _; refine pl ?_; refine blk_far ?_ NB118_131.out _; refine pl ?_; refine blk_far ?_ NB118_131.out _; refine pl ?_; refine blk_far ?_ NB118_131.out _; refine pl ?_; refine blk_far ?_ NB118_131.out _; exact bx BK118.out)) : gb118 ≠ gb132)); have NB132_118 := As.mk ((by rw [hg]; exact Nat.ne_of_gt (blk_lt (g := gb118) (o := .cells #[.int .i64 a1_0, .int .i64 a1_1] 37 (0, 0)) (by refine pl ?_; refine blk_far ?_ NB118_131.out _; refine pl ?_; refine blk_far ?_ NB118_131.out _; refine pl ?_; refine blk_far ?_ NB118_131.out _; refine pl ?_; refine blk_far ?_ NB118_131.out _; refine pl ?_; refine blk_far ?_ NB118_131.out _; exact bx BK118.out)) : gb132 ≠ gb118)); replace BK118 := As.mk (blk_below (g := gb118) (o := .cells #[.int .i64 a1_0, .int .i64 a1_1] 37 (0, 0)) (by refine pl ?_; refine blk_far ?_ NB118_131.out _; refine pl ?_; refine blk_far ?_ NB118_131.out _; refine pl ?_; refine blk_far ?_ NB118_131.out _; refine pl ?_; refine blk_far ?_ NB118_131.out _; refine pl ?_; refine blk_far ?_ NB118_131.out _; exact bx BK118.out) hb); have NB119_132 := As.mk ((by rw [hg]; exact Nat.ne_of_lt (blk_lt (g := gb119) (o := .cells #[.slice none 0 0, .slice none 0 0, .slice none 0 0, .int .i64 0, .int .i64 0] 34 (0, 0)) (by refine pl ?_; refine blk_far ?_ NB119_131.out _; refine pl ?_; refine blk_far ?_ NB119_131.out _; refine pl ?_; refine blk_far ?_ NB119_131.out _; refine pl ?_; refine blk_far ?_ NB119_131.out _; refine pl ?_; refine blk_far ?_ NB119_131.out _; exact bx BK119.out)) : gb119 ≠ gb132)); have NB132_119 := As.mk ((by rw [hg]; exact Nat.ne_of_gt (blk_lt (g := gb119) (o := .cells #[.slice none 0 0, .slice none 0 0, .slice none 0 0, .int .i64 0, .int .i64 0] 34 (0, 0)) (by refine pl ?_; refine blk_far ?_ NB119_131.out _; refine pl ?_; refine blk_far ?_ NB119_131.out _; refine pl ?_; refine blk_far ?_ NB119_131.out _; refine pl ?_; refine blk_far ?_ NB119_131.out _; refine pl ?_; refine blk_far ?_ NB119_131.out _; exact bx BK119.out)) : gb132 ≠ gb119)); replace BK119 := As.mk (blk_below (g := gb119) (o := .cells #[.slice none 0 0, .slice none 0 0, .slice none 0 0, .int .i64 0, .int .i64 0] 34 (0, 0)) (by refine pl ?_; refine blk_far ?_ NB119_131.out _; refine pl ?_; refine blk_far ?_ NB119_131.out _; refine pl ?_; refine blk_far ?_ NB119_131.out _; refine pl ?_; refine blk_far ?_ NB119_131.out _; refine pl ?_; refine blk_far ?_ NB119_131.out _; exact bx BK119.out) hb); have NB131_132 := As.mk ((by rw [hg]; exact Nat.ne_of_lt (blk_lt (g := gb131) (o := .cells #[.slice Ao82 t120.length co82, .slice Ao86 t123.length co86, .slice Ao87 t126.length co87, .int .i64 t129, .int .i64 t130] 34 (0, 0)) (by refine pl ?_; refine blk_put (cs := #[.slice Ao82 t120.length co82, .slice Ao86 t123.length co86, .slice Ao87 t126.length co87, .int .i64 t129, .int .i64 0]) ?_ 4 _ rfl; refine pl ?_; refine blk_put (cs := #[.slice Ao82 t120.length co82, .slice Ao86 t123.length co86, .slice Ao87 t126.length co87, .int .i64 0, .int .i64 0]) ?_ 3 _ rfl; refine pl ?_; refine blk_put (cs := #[.slice Ao82 t120.length co82, .slice Ao86 t123.length co86, .slice none 0 0, .int .i64 0, .int .i64 0]) ?_ 2 _ rfl; refine pl ?_; refine blk_put (cs := #[.slice Ao82 t120.length co82, .slice none 0 0, .slice none 0 0, .int .i64 0, .int .i64 0]) ?_ 1 _ rfl; refine pl ?_; refine blk_put (cs := #[.slice none 0 0, .slice none 0 0, .slice none 0 0, .int .i64 0, .int .i64 0]) ?_ 0 _ rfl; exact bx BK131.out)) : gb131 ≠ gb132)); have NB132_131 := As.mk ((by rw [hg]; exact Nat.ne_of_gt (blk_lt (g := gb131) (o := .cells #[.slice Ao82 t120.length co82, .slice Ao86 t123.length co86, .slice Ao87 t126.length co87, .int .i64 t129, .int .i64 t130] 34 (0, 0)) (by refine pl ?_; refine blk_put (cs := #[.slice Ao82 t120.length co82, .slice Ao86 t123.length co86, .slice Ao87 t126.length co87, .int .i64 t129, .int .i64 0]) ?_ 4 _ rfl; refine pl ?_; refine blk_put (cs := #[.slice Ao82 t120.length co82, .slice Ao86 t123.length co86, .slice Ao87 t126.length co87, .int .i64 0, .int .i64 0]) ?_ 3 _ rfl; refine pl ?_; refine blk_put (cs := #[.slice Ao82 t120.length co82, .slice Ao86 t123.length co86, .slice none 0 0, .int .i64 0, .int .i64 0]) ?_ 2 _ rfl; refine pl ?_; refine blk_put (cs := #[.slice Ao82 t120.length co82, .slice none 0 0, .slice none 0 0, .int .i64 0, .int .i64 0]) ?_ 1 _ rfl; refine pl ?_; refine blk_put (cs := #[.slice none 0 0, .slice none 0 0, .slice none 0 0, .int .i64 0, .int .i64 0]) ?_ 0 _ rfl; exact bx BK131.out)) : gb132 ≠ gb131)); replace BK131 := As.mk (blk_below (g := gb131) (o := .cells #[.slice Ao82 t120.length co82, .slice Ao86 t123.length co86, .slice Ao87 t126.length co87, .int .i64 t129, .int .i64 t130] 34 (0, 0)) (by refine pl ?_; refine blk_put (cs := #[.slice Ao82 t120.length co82, .slice Ao86 t123.length co86, .slice Ao87 t126.length co87, .int .i64 t129, .int .i64 0]) ?_ 4 _ rfl; refine pl ?_; refine blk_put (cs := #[.slice Ao82 t120.length co82, .slice Ao86 t123.length co86, .slice Ao87 t126.length co87, .int .i64 0, .int .i64 0]) ?_ 3 _ rfl; refine pl ?_; refine blk_put (cs := #[.slice Ao82 t120.length co82, .slice Ao86 t123.length co86, .slice none 0 0, .int .i64 0, .int .i64 0]) ?_ 2 _ rfl; refine pl ?_; refine blk_put (cs := #[.slice Ao82 t120.length co82, .slice none 0 0, .slice none 0 0, .int .i64 0, .int .i64 0]) ?_ 1 _ rfl; refine pl ?_; refine blk_put (cs := #[.slice none 0 0, .slice none 0 0, .slice none 0 0, .int .i64 0, .int .i64 0]) ?_ 0 _ rfl; exact bx BK131.out) hb); clear hb hbox hg))
  replace HO122 := As.mk (Kd.R_drew HO122.out)
  replace HO125 := As.mk (Kd.R_drew HO125.out)
  replace HO128 := As.mk (Kd.R_drew HO128.out)
  replace BK119 := As.mk (blk_drew BK119.out)
  replace BK131 := As.mk (blk_drew BK131.out)
  replace BK132 := As.mk (blk_drew BK132.out)
  replace HB := As.mk (below_drew1 HB.out)
  refine start_ (n := 21) (S := fun w' => w'.cell? ⟨gb131, 0, none⟩ = some (.slice Ao82 t120.length co82) ∧ w'.cell? ⟨gb131, 1, none⟩ = some (.slice Ao86 t123.length co86) ∧ w'.cell? ⟨gb131, 2, none⟩ = some (.slice Ao87 t126.length co87) ∧ w'.cell? ⟨gb131, 3, none⟩ = some (.int .i64 t129) ∧ w'.cell? ⟨gb131, 4, none⟩ = some (.int .i64 t130)) (ds := []) #[O, O, O, O, O, O, O, O, O, O, O, O, O, O, O, O, O, O, O, O, O] (by kernel_rfl) rfl rfl ⟨(blk_cell BK131.out 0).trans rfl, (blk_cell BK131.out 1).trans rfl, (blk_cell BK131.out 2).trans rfl, (blk_cell BK131.out 3).trans rfl, (blk_cell BK131.out 4).trans rfl⟩ (fun hHeld => ?_)
  generalize w90.drew = w91 at HO122 HO125 HO128 BK119 BK131 BK132 HB hHeld ⊢
  refine pure_ (i := 0) (N := some 4) (v := ?_) (a' := ?_) #[I, O, O, O, O, O, O, O, O, O, O, O, O, O, O, O, O, O, O, O, O] rfl rfl (by kernel_rfl) (fun _ _ _ h => h) (Or.inl ⟨by rfl, ?_⟩) ?_ ?_
  rotate_left
  ·
   intro w'
   go_simp
   with_reducible rfl
  rotate_left
  ·
   simp only [pk, i64_w, i32_w]
   rfl
  refine pure_ (i := 1) (N := some 5) (v := ?_) (a' := ?_) #[I, I, O, O, O, O, O, O, O, O, O, O, O, O, O, O, O, O, O, O, O] rfl rfl (by kernel_rfl) (fun _ _ _ h => h) (Or.inl ⟨by rfl, ?_⟩) ?_ ?_
  rotate_left
  ·
   intro w'
   go_simp
   with_reducible rfl
  rotate_left
  ·
   simp only [pk, i64_w, i32_w]
   rfl
  refine pure_ (i := 2) (N := some 6) (v := ?_) (a' := ?_) #[I, I, I, O, O, O, O, O, O, O, O, O, O, O, O, O, O, O, O, O, O] rfl rfl (by kernel_rfl) (fun _ _ _ h => h) (Or.inl ⟨by rfl, ?_⟩) ?_ ?_
  rotate_left
  ·
   intro w'
   go_simp
   with_reducible rfl
  rotate_left
  ·
   simp only [pk, i64_w, i32_w]
   rfl
  refine take_ (i := 3) (N := some 7) (v := ?_) (a' := ?_) #[I, I, I, I, O, O, O, O, O, O, O, O, O, O, O, O, O, O, O, O, O] rfl rfl (by kernel_rfl) (fun _ _ _ h => h) (Or.inl ⟨by rfl, ?_⟩) hHeld ?_ ?_
  rotate_left
  ·
   rintro w' ⟨s0, s1, s2, s3, s4⟩
   go_simp
   with_reducible rfl
  rotate_left
  ·
   simp only [pk, i64_w, i32_w]
   rfl
  refine pure_ (i := 4) (N := some 8) (v := ?_) (a' := ?_) #[I, I, I, I, I, O, O, O, O, O, O, O, O, O, O, O, O, O, O, O, O] rfl rfl (by kernel_rfl) (fun _ _ _ h => h) (Or.inl ⟨by rfl, ?_⟩) ?_ ?_
  rotate_left
  ·
   intro w'
   go_simp
   with_reducible rfl
  rotate_left
  ·
   simp only [pk, i64_w, i32_w]
   rfl
  refine pure_ (i := 5) (N := some 9) (v := ?_) (a' := ?_) #[I, I, I, I, I, I, O, O, O, O, O, O, O, O, O, O, O, O, O, O, O] rfl rfl (by kernel_rfl) (fun _ _ _ h => h) (Or.inl ⟨by rfl, ?_⟩) ?_ ?_
  rotate_left
  ·
   intro w'
   go_simp
   with_reducible rfl
  rotate_left
  ·
   simp only [pk, i64_w, i32_w]
   rfl
  refine pure_ (i := 6) (N := some 10) (v := undef) (a' := ?_) #[I, I, I, I, I, I, I, O, O, O, O, O, O, O, O, O, O, O, O, O, O] rfl rfl (by kernel_rfl) (fun _ _ _ h => h) (Or.inr ⟨by rfl, rfl⟩) ?_ ?_
  rotate_left
  ·
   simp only [pk, i64_w, i32_w]
   rfl
  refine pure_ (i := 7) (N := some 11) (v := undef) (a' := ?_) #[I, I, I, I, I, I, I, I, O, O, O, O, O, O, O, O, O, O, O, O, O] rfl rfl (by kernel_rfl) (fun _ _ _ h => h) (Or.inr ⟨by rfl, rfl⟩) ?_ ?_
  rotate_left
  ·
   simp only [pk, i64_w, i32_w]
   rfl
  refine pure_ (i := 8) (N := some 12) (v := undef) (a' := ?_) #[I, I, I, I, I, I, I, I, I, O, O, O, O, O, O, O, O, O, O, O, O] rfl rfl (by kernel_rfl) (fun _ _ _ h => h) (Or.inr ⟨by rfl, rfl⟩) ?_ ?_
  rotate_left
  ·
   simp only [pk, i64_w, i32_w]
   rfl
  refine pure_ (i := 9) (N := some 13) (v := ?_) (a' := ?_) #[I, I, I, I, I, I, I, I, I, I, O, O, O, O, O, O, O, O, O, O, O] rfl rfl (by kernel_rfl) (fun _ _ _ h => h) (Or.inl ⟨by rfl, ?_⟩) ?_ ?_
  rotate_left
  ·
   intro w'
   go_simp
   with_reducible rfl
  rotate_left
  ·
   simp only [pk, i64_w, i32_w]
   rfl
  refine pure_ (i := 10) (N := some 14) (v := ?_) (a' := ?_) #[I, I, I, I, I, I, I, I, I, I, I, O, O, O, O, O, O, O, O, O, O] rfl rfl (by kernel_rfl) (fun _ _ _ h => h) (Or.inl ⟨by rfl, ?_⟩) ?_ ?_
  rotate_left
  ·
   intro w'
   go_simp
   with_reducible rfl
  rotate_left
  ·
   simp only [pk, i64_w, i32_w]
   rfl
  refine pure_ (i := 11) (N := some 15) (v := undef) (a' := ?_) #[I, I, I, I, I, I, I, I, I, I, I, I, O, O, O, O, O, O, O, O, O] rfl rfl (by kernel_rfl) (fun _ _ _ h => h) (Or.inr ⟨by rfl, rfl⟩) ?_ ?_
  rotate_left
  ·
   simp only [pk, i64_w, i32_w]
   rfl
  refine pure_ (i := 12) (N := some 16) (v := undef) (a' := ?_) #[I, I, I, I, I, I, I, I, I, I, I, I, I, O, O, O, O, O, O, O, O] rfl rfl (by kernel_rfl) (fun _ _ _ h => h) (Or.inr ⟨by rfl, rfl⟩) ?_ ?_
  rotate_left
  ·
   simp only [pk, i64_w, i32_w]
   rfl
  refine pure_ (i := 13) (N := some 17) (v := undef) (a' := ?_) #[I, I, I, I, I, I, I, I, I, I, I, I, I, I, O, O, O, O, O, O, O] rfl rfl (by kernel_rfl) (fun _ _ _ h => h) (Or.inr ⟨by rfl, rfl⟩) ?_ ?_
  rotate_left
  ·
   simp only [pk, i64_w, i32_w]
   rfl
  refine pure_ (i := 14) (N := some 18) (v := undef) (a' := ?_) #[I, I, I, I, I, I, I, I, I, I, I, I, I, I, I, O, O, O, O, O, O] rfl rfl (by kernel_rfl) (fun _ _ _ h => h) (Or.inr ⟨by rfl, rfl⟩) ?_ ?_
  rotate_left
  ·
   simp only [pk, i64_w, i32_w]
   rfl
  refine pure_ (i := 15) (N := some 19) (v := undef) (a' := ?_) #[I, I, I, I, I, I, I, I, I, I, I, I, I, I, I, I, O, O, O, O, O] rfl rfl (by kernel_rfl) (fun _ _ _ h => h) (Or.inr ⟨by rfl, rfl⟩) ?_ ?_
  rotate_left
  ·
   simp only [pk, i64_w, i32_w]
   rfl
  refine pure_ (i := 16) (N := some 20) (v := undef) (a' := ?_) #[I, I, I, I, I, I, I, I, I, I, I, I, I, I, I, I, I, O, O, O, O] rfl rfl (by kernel_rfl) (fun _ _ _ h => h) (Or.inr ⟨by rfl, rfl⟩) ?_ ?_
  rotate_left
  ·
   simp only [pk, i64_w, i32_w]
   rfl
  refine pure_ (i := 17) (N := some 21) (v := undef) (a' := ?_) #[I, I, I, I, I, I, I, I, I, I, I, I, I, I, I, I, I, I, O, O, O] rfl rfl (by kernel_rfl) (fun _ _ _ h => h) (Or.inr ⟨by rfl, rfl⟩) ?_ ?_
  rotate_left
  ·
   simp only [pk, i64_w, i32_w]
   rfl
  refine pure_ (i := 18) (N := some 22) (v := undef) (a' := ?_) #[I, I, I, I, I, I, I, I, I, I, I, I, I, I, I, I, I, I, I, O, O] rfl rfl (by kernel_rfl) (fun _ _ _ h => h) (Or.inr ⟨by rfl, rfl⟩) ?_ ?_
  rotate_left
  ·
   simp only [pk, i64_w, i32_w]
   rfl
  refine pure_ (i := 19) (N := some 23) (v := undef) (a' := ?_) #[I, I, I, I, I, I, I, I, I, I, I, I, I, I, I, I, I, I, I, I, O] rfl rfl (by kernel_rfl) (fun _ _ _ h => h) (Or.inr ⟨by rfl, rfl⟩) ?_ ?_
  rotate_left
  ·
   simp only [pk, i64_w, i32_w]
   rfl
  refine pure_ (i := 20) (N := some 24) (v := ?_) (a' := ?_) #[I, I, I, I, I, I, I, I, I, I, I, I, I, I, I, I, I, I, I, I, I] rfl rfl (by kernel_rfl) (fun _ _ _ h => h) (Or.inl ⟨by rfl, ?_⟩) ?_ ?_
  rotate_left
  ·
   intro w'
   go_simp
   with_reducible rfl
  rotate_left
  ·
   simp only [pk, i64_w, i32_w]
   rfl
  refine done_ (by kernel_rfl) ?_
  obtain ⟨hcz92_0, hcz92_1, hcz92_2, hcz92_3, hcz92_4, hfz92_0, hfz92_1, hfz92_2, hfz92_3, hfz92_4⟩ := cl5 BK131.out
  obtain ⟨hcz93_0, hcz93_1, hcz93_2, hcz93_3, hcz93_4, hfz93_0, hfz93_1, hfz93_2, hfz93_3, hfz93_4⟩ := cl5 BK119.out
  try go_wp2_with (first | (with_reducible show bodyPost Try.prog Try.f47 _ _ _ _; (try simp only [Exit.inBlock, Exit.then]); refine bodyPost_end (results_none rfl _ _ _) rfl ?_; simp only []; go_at_K; (try ((first | refine lay_top (by go_cell_look) ?_ | refine lay_top1 (by go_cell_look) ?_ | refine lay_top2 (by go_cell_look) ?_); intro hlay_))))
  refine bodyPost_ret (results_cell_row rfl _ _ gb119 34 #[.slice Ao82 t120.length co82, .slice Ao86 t123.length co86, .slice Ao87 t126.length co87, .int .i64 t129, .int .i64 t130] (0, 0) _ rfl (by refine pl ?_; refine blk_put (cs := #[.slice Ao82 t120.length co82, .slice Ao86 t123.length co86, .slice Ao87 t126.length co87, .int .i64 t129, .int .i64 0]) ?_ 4 _ rfl; refine pl ?_; refine blk_put (cs := #[.slice Ao82 t120.length co82, .slice Ao86 t123.length co86, .slice Ao87 t126.length co87, .int .i64 0, .int .i64 0]) ?_ 3 _ rfl; refine pl ?_; refine blk_put (cs := #[.slice Ao82 t120.length co82, .slice Ao86 t123.length co86, .slice none 0 0, .int .i64 0, .int .i64 0]) ?_ 2 _ rfl; refine pl ?_; refine blk_put (cs := #[.slice Ao82 t120.length co82, .slice none 0 0, .slice none 0 0, .int .i64 0, .int .i64 0]) ?_ 1 _ rfl; refine pl ?_; refine blk_put (cs := #[.slice none 0 0, .slice none 0 0, .slice none 0 0, .int .i64 0, .int .i64 0]) ?_ 0 _ rfl; exact bx BK119.out) Try.underlying34 rfl (by kernel_rfl)) rfl ?_
  exact ⟨_, _, _, by first | rfl | (simp [errW_none, errW_some] <;> rfl) | (simp [*, errW_none, errW_some] <;> rfl), by (with_reducible repeat (first | apply Kd.R_alloc | apply Kd.R_drewN | apply Kd.R_drew)); exact Kd.R_mono (Kd.R_far (p := ⟨gb119, 4, none⟩) (Kd.R_far (p := ⟨gb119, 3, none⟩) (Kd.R_far (p := ⟨gb119, 2, none⟩) (Kd.R_far (p := ⟨gb119, 1, none⟩) (Kd.R_far (p := ⟨gb119, 0, none⟩) (Kd.R_types HO122.out BK119.out (by decide)) (fun _ hk => hk.2) (.slice Ao82 t120.length co82)) (fun _ hk => hk.2) (.slice Ao86 t123.length co86)) (fun _ hk => hk.2) (.slice Ao87 t126.length co87)) (fun _ hk => hk.2) (.int .i64 t129)) (fun _ hk => hk.2) (.int .i64 t130)) (fun _ hk => trivial), by (with_reducible repeat (first | apply Kd.R_alloc | apply Kd.R_drewN | apply Kd.R_drew)); exact Kd.R_mono (Kd.R_far (p := ⟨gb119, 4, none⟩) (Kd.R_far (p := ⟨gb119, 3, none⟩) (Kd.R_far (p := ⟨gb119, 2, none⟩) (Kd.R_far (p := ⟨gb119, 1, none⟩) (Kd.R_far (p := ⟨gb119, 0, none⟩) (Kd.R_types HO125.out BK119.out (by decide)) (fun _ hk => hk.2) (.slice Ao82 t120.length co82)) (fun _ hk => hk.2) (.slice Ao86 t123.length co86)) (fun _ hk => hk.2) (.slice Ao87 t126.length co87)) (fun _ hk => hk.2) (.int .i64 t129)) (fun _ hk => hk.2) (.int .i64 t130)) (fun _ hk => hk.1), by (with_reducible repeat (first | apply Kd.R_alloc | apply Kd.R_drewN | apply Kd.R_drew)); exact Kd.R_mono (Kd.R_far (p := ⟨gb119, 4, none⟩) (Kd.R_far (p := ⟨gb119, 3, none⟩) (Kd.R_far (p := ⟨gb119, 2, none⟩) (Kd.R_far (p := ⟨gb119, 1, none⟩) (Kd.R_far (p := ⟨gb119, 0, none⟩) (Kd.R_types HO128.out BK119.out (by decide)) (fun _ hk => hk.2) (.slice Ao82 t120.length co82)) (fun _ hk => hk.2) (.slice Ao86 t123.length co86)) (fun _ hk => hk.2) (.slice Ao87 t126.length co87)) (fun _ hk => hk.2) (.int .i64 t129)) (fun _ hk => hk.2) (.int .i64 t130)) (fun _ hk => hk.1), be w⟩

 rw [if_pos c4] at H
 have c4b0 : (t130 == 0) = true := beq_iff_eq.mpr c4
 have c4b1 : (t130 != 0) = false := bne_eq_false_iff_eq.mpr c4
 clear c4
 by_cases c5 : a1_0 = 2
 rotate_left
 ·
  rw [if_neg c5] at H
  have c5b0 : (a1_0 == 2) = false := beq_eq_false_iff_ne.mpr c5
  have c5b1 : (a1_0 != 2) = true := bne_iff_ne.mpr c5
  simp only [Option.some.injEq, Prod.mk.injEq] at H
  obtain ⟨rfl, rfl, rfl, rfl, rfl⟩ := H
  go_enter Try.func22, Try.ntmps22
  try go_wp2_with (first | ((with_reducible refine gate_dst (N := 2) rfl ?_); refine box_event ?hg (N := 2) ?hd (cs := #[.slice A0_0 l0_0.length c0_0, .slice A0_1 l0_1.length c0_1, .slice A0_2 l0_2.length c0_2, .int .i64 a0_3, .int .i64 a0_4]) (t := 34) ?hr ?_; (case hd => rfl); (case hg => rfl); (case hr => first | (go_simp; done) | (go_simp; rfl)); intro gb117 hg w54 hbox hb; have BK117 := As.mk (hbox); have GW117 := As.mk (gs w hg); have GE117 := As.mk (gs w hg); replace HB := As.mk (below_step (be w) hb); clear hb hbox hg) | ((with_reducible refine gate_dst (N := 3) rfl ?_); refine box_event ?hg (N := 3) ?hd (cs := #[.int .i64 a1_0, .int .i64 a1_1]) (t := 37) ?hr ?_; (case hd => rfl); (case hg => rfl); (case hr => first | (go_simp; done) | (go_simp; rfl)); intro gb118 hg w55 hbox hb; have BK118 := As.mk (hbox); have GW118 := As.mk (gs w hg); have GE118 := As.mk (gs w hg); replace HB := As.mk (below_step (be w) hb); have NB117_118 := As.mk (nl hg (bx BK117.out)); have NB118_117 := As.mk (ng hg (bx BK117.out)); replace BK117 := As.mk (blk_below (bx BK117.out) hb); clear hb hbox hg) | ((with_reducible refine gate_dst (N := 4) rfl ?_); refine box_event ?hg (N := 4) ?hd (cs := #[.slice none 0 0, .slice none 0 0, .slice none 0 0, .int .i64 0, .int .i64 0]) (t := 34) ?hr ?_; (case hd => rfl); (case hg => rfl); (case hr => first | (go_simp; done) | (go_simp; rfl)); intro gb119 hg w56 hbox hb; have BK119 := As.mk (hbox); have GW119 := As.mk (gs w hg); have GE119 := As.mk (gs w hg); replace HB := As.mk (below_step (be w) hb); have NB117_119 := As.mk (nl hg (bx BK117.out)); have NB119_117 := As.mk (ng hg (bx BK117.out)); replace BK117 := As.mk (blk_below (bx BK117.out) hb); have NB118_119 := As.mk (nl hg (bx BK118.out)); have NB119_118 := As.mk (ng hg (bx BK118.out)); replace BK118 := As.mk (blk_below (bx BK118.out) hb); clear hb hbox hg; have hnb57 := NB117_118.out; have hnc57 := NB118_117.out; have hnb58 := NB117_119.out; have hnc58 := NB119_117.out; obtain ⟨hcz59_0, hcz59_1, hcz59_2, hcz59_3, hcz59_4, hfz59_0, hfz59_1, hfz59_2, hfz59_3, hfz59_4⟩ := cl5 BK117.out) | ((with_reducible refine gate_callee (f := 42) rfl ?_); refine goesL_ (some 7) rfl rfl Try.func42 (by kernel_rfl) rfl #[.agg #[.slice A0_0 l0_0.length c0_0, .slice A0_1 l0_1.length c0_1, .slice A0_2 l0_2.length c0_2, .int .i64 a0_3, .int .i64 a0_4]] rfl (by (try simp only [lm]); first | done | rfl | (simp only [List.length_drop, List.length_take]; rfl)) ?_; (with_reducible refine (impl_copyMemory.calls _ _ l0_0 _ _ l0_1 _ _ l0_2 a0_3 a0_4 t120 t123 t126 t129 t130 _ ?side1 ?side2 ?side3 ?side4 ?side5 ?side6 A3.out).mono ?_); (case side1 => exact Kd.C_below HR0_0.out (be w)); (case side2 => exact HC0_0.out); (case side3 => exact Kd.C_below HR0_1.out (be w)); (case side4 => exact HC0_1.out); (case side5 => exact Kd.C_below HR0_2.out (be w)); (case side6 => exact HC0_2.out); rintro e w60 ⟨v121, v124, v127, rfl, ho0, ho1, ho2, hb⟩; refine ⟨_, rfl, ?_⟩; have HO122 := As.mk (Kd.R_lower ho0 (below_size (be w))); have HO125 := As.mk (Kd.R_lower ho1 (below_size (be w))); have HO128 := As.mk (Kd.R_lower ho2 (below_size (be w))); replace BK118 := As.mk (blk_below (bx BK118.out) hb); replace BK119 := As.mk (blk_below (bx BK119.out) hb); replace HB := As.mk (below_step (be w) hb); (try clear hb); (try clear hb2); (try clear hk); (try clear hi); (try clear ho0); (try clear ho1); (try clear ho2)) | ((with_reducible refine gate_dst (N := 5) rfl ?_); refine box_event ?hg (N := 5) ?hd (cs := #[.slice none 0 0, .slice none 0 0, .slice none 0 0, .int .i64 0, .int .i64 0]) (t := 34) ?hr ?_; (case hd => rfl); (case hg => rfl); (case hr => first | (go_simp; done) | (go_simp; rfl)); intro gb131 hg w61 hbox hb; replace HO122 := As.mk (Kd.R_below (by (with_reducible repeat (first | apply Kd.R_alloc | apply Kd.R_drewN | apply Kd.R_drew)); exact HO122.out) hb); replace HO125 := As.mk (Kd.R_below (by (with_reducible repeat (first | apply Kd.R_alloc | apply Kd.R_drewN | apply Kd.R_drew)); exact HO125.out) hb); replace HO128 := As.mk (Kd.R_below (by (with_reducible repeat (first | apply Kd.R_alloc | apply Kd.R_drewN | apply Kd.R_drew)); exact HO128.out) hb); have BK131 := As.mk (hbox); have GW131 := As.mk (gs w hg); have GE131 := As.mk (gs w hg); replace HB := As.mk (below_step (be w) hb); have NB118_131 := As.mk (nl hg (bx BK118.out)); have NB131_118 := As.mk (ng hg (bx BK118.out)); replace BK118 := As.mk (blk_below (bx BK118.out) hb); have NB119_131 := As.mk (nl hg (bx BK119.out)); have NB131_119 := As.mk (ng hg (bx BK119.out)); replace BK119 := As.mk (blk_below (bx BK119.out) hb); clear hb hbox hg; obtain ⟨Ao62, co62, eo62⟩ := Kd.R_slice HO122.out; subst eo62; have hnb63 := NB131_118.out; have hnc63 := NB118_131.out; have hnb64 := NB131_119.out; have hnc64 := NB119_131.out; obtain ⟨hcz65_0, hcz65_1, hcz65_2, hcz65_3, hcz65_4, hfz65_0, hfz65_1, hfz65_2, hfz65_3, hfz65_4⟩ := cl5 BK131.out; obtain ⟨Ao66, co66, eo66⟩ := Kd.R_slice HO125.out; subst eo66; obtain ⟨Ao67, co67, eo67⟩ := Kd.R_slice HO128.out; subst eo67; have hnb68 := NB118_119.out; have hnc68 := NB119_118.out; obtain ⟨hcz69_0, hcz69_1, hfz69_0, hfz69_1⟩ := cl2 BK118.out) | (go_at_call 47; go_in) | ((with_reducible refine gate_dst (N := 3) rfl ?_); refine box_event ?hg (N := 3) ?hd (cs := #[.int .i64 a1_0, .int .i64 a1_1]) (t := 37) ?hr ?_; (case hd => rfl); (case hg => rfl); (case hr => first | (go_simp; done) | (go_simp; rfl)); intro gb132 hg w70 hbox hb; replace HO122 := As.mk (Kd.R_below (by (with_reducible repeat (first | apply Kd.R_alloc | apply Kd.R_drewN | apply Kd.R_drew)); exact (Kd.R_mono (Kd.R_far (p := ⟨gb131, 4, none⟩) (Kd.R_far (p := ⟨gb131, 3, none⟩) (Kd.R_far (p := ⟨gb131, 2, none⟩) (Kd.R_far (p := ⟨gb131, 1, none⟩) (Kd.R_far (p := ⟨gb131, 0, none⟩) (Kd.R_types HO122.out BK131.out (by decide)) (fun _ hk => hk.2) (.slice Ao62 t120.length co62)) (fun _ hk => hk.2) (.slice Ao66 t123.length co66)) (fun _ hk => hk.2) (.slice Ao67 t126.length co67)) (fun _ hk => hk.2) (.int .i64 t129)) (fun _ hk => hk.2) (.int .i64 t130)) (fun _ h_ => h_.1))) hb); replace HO125 := As.mk (Kd.R_below (by (with_reducible repeat (first | apply Kd.R_alloc | apply Kd.R_drewN | apply Kd.R_drew)); exact (Kd.R_mono (Kd.R_far (p := ⟨gb131, 4, none⟩) (Kd.R_far (p := ⟨gb131, 3, none⟩) (Kd.R_far (p := ⟨gb131, 2, none⟩) (Kd.R_far (p := ⟨gb131, 1, none⟩) (Kd.R_far (p := ⟨gb131, 0, none⟩) (Kd.R_types HO125.out BK131.out (by decide)) (fun _ hk => hk.2) (.slice Ao62 t120.length co62)) (fun _ hk => hk.2) (.slice Ao66 t123.length co66)) (fun _ hk => hk.2) (.slice Ao67 t126.length co67)) (fun _ hk => hk.2) (.int .i64 t129)) (fun _ hk => hk.2) (.int .i64 t130)) (fun _ h_ => h_.1))) hb); replace HO128 := As.mk (Kd.R_below (by (with_reducible repeat (first | apply Kd.R_alloc | apply Kd.R_drewN | apply Kd.R_drew)); exact (Kd.R_mono (Kd.R_far (p := ⟨gb131, 4, none⟩) (Kd.R_far (p := ⟨gb131, 3, none⟩) (Kd.R_far (p := ⟨gb131, 2, none⟩) (Kd.R_far (p := ⟨gb131, 1, none⟩) (Kd.R_far (p := ⟨gb131, 0, none⟩) (Kd.R_types HO128.out BK131.out (by decide)) (fun _ hk => hk.2) (.slice Ao62 t120.length co62)) (fun _ hk => hk.2) (.slice Ao66 t123.length co66)) (fun _ hk => hk.2) (.slice Ao67 t126.length co67)) (fun _ hk => hk.2) (.int .i64 t129)) (fun _ hk => hk.2) (.int .i64 t130)) (fun _ h_ => h_.1))) hb); have BK132 := As.mk (hbox); have GW132 := As.mk (gs w hg); have GE132 := As.mk (gs w hg); replace HB := As.mk (below_step (be w) hb); have NB118_132 := As.mk ((by rw [hg]; exact Nat.ne_of_lt (blk_lt (g := gb118) (o := .cells #[.int .i64 a1_0, .int .i64 a1_1] 37 (0, 0)) (by refine pl ?_; refine blk_far ?_ NB118_131.out _; refine pl ?_; refine blk_far ?_ NB118_131.out _; refine pl ?_; refine blk_far ?_ NB118_131.out _; refine pl ?_; refine blk_far ?_ NB118_131.out _; refine pl ?_; refine blk_far ?_ NB118_131.out _; exact bx BK118.out)) : gb118 ≠ gb132)); have NB132_118 := As.mk ((by rw [hg]; exact Nat.ne_of_gt (blk_lt (g := gb118) (o := .cells #[.int .i64 a1_0, .int .i64 a1_1] 37 (0, 0)) (by refine pl ?_; refine blk_far ?_ NB118_131.out _; refine pl ?_; refine blk_far ?_ NB118_131.out _; refine pl ?_; refine blk_far ?_ NB118_131.out _; refine pl ?_; refine blk_far ?_ NB118_131.out _; refine pl ?_; refine blk_far ?_ NB118_131.out _; exact bx BK118.out)) : gb132 ≠ gb118)); replace BK118 := As.mk (blk_below (g := gb118) (o := .cells #[.int .i64 a1_0, .int .i64 a1_1] 37 (0, 0)) (by refine pl ?_; refine blk_far ?_ NB118_131.out _; refine pl ?_; refine blk_far ?_ NB118_131.out _; refine pl ?_; refine blk_far ?_ NB118_131.out _; refine pl ?_; refine blk_far ?_ NB118_131.out _; refine pl ?_; refine blk_far ?_ NB118_131.out _; exact bx BK118.out) hb); have NB119_132 := As.mk ((by rw [hg]; exact Nat.ne_of_lt (blk_lt (g := gb119) (o := .cells #[.slice none 0 0, .slice none 0 0, .slice none 0 0, .int .i64 0, .int .i64 0] 34 (0, 0)) (by refine pl ?_; refine blk_far ?_ NB119_131.out _; refine pl ?_; refine blk_far ?_ NB119_131.out _; refine pl ?_; refine blk_far ?_ NB119_131.out _; refine pl ?_; refine blk_far ?_ NB119_131.out _; refine pl ?_; refine blk_far ?_ NB119_131.out _; exact bx BK119.out)) : gb119 ≠ gb132)); have NB132_119 := As.mk ((by rw [hg]; exact Nat.ne_of_gt (blk_lt (g := gb119) (o := .cells #[.slice none 0 0, .slice none 0 0, .slice none 0 0, .int .i64 0, .int .i64 0] 34 (0, 0)) (by refine pl ?_; refine blk_far ?_ NB119_131.out _; refine pl ?_; refine blk_far ?_ NB119_131.out _; refine pl ?_; refine blk_far ?_ NB119_131.out _; refine pl ?_; refine blk_far ?_ NB119_131.out _; refine pl ?_; refine blk_far ?_ NB119_131.out _; exact bx BK119.out)) : gb132 ≠ gb119)); replace BK119 := As.mk (blk_below (g := gb119) (o := .cells #[.slice none 0 0, .slice none 0 0, .slice none 0 0, .int .i64 0, .int .i64 0] 34 (0, 0)) (by refine pl ?_; refine blk_far ?_ NB119_131.out _; refine pl ?_; refine blk_far ?_ NB119_131.out _; refine pl ?_; refine blk_far ?_ NB119_131.out _; refine pl ?_; refine blk_far ?_ NB119_131.out _; refine pl ?_; refine blk_far ?_ NB119_131.out _; exact bx BK119.out) hb); have NB131_132 := As.mk ((by rw [hg]; exact Nat.ne_of_lt (blk_lt (g := gb131) (o := .cells #[.slice Ao62 t120.length co62, .slice Ao66 t123.length co66, .slice Ao67 t126.length co67, .int .i64 t129, .int .i64 t130] 34 (0, 0)) (by refine pl ?_; refine blk_put (cs := #[.slice Ao62 t120.length co62, .slice Ao66 t123.length co66, .slice Ao67 t126.length co67, .int .i64 t129, .int .i64 0]) ?_ 4 _ rfl; refine pl ?_; refine blk_put (cs := #[.slice Ao62 t120.length co62, .slice Ao66 t123.length co66, .slice Ao67 t126.length co67, .int .i64 0, .int .i64 0]) ?_ 3 _ rfl; refine pl ?_; refine blk_put (cs := #[.slice Ao62 t120.length co62, .slice Ao66 t123.length co66, .slice none 0 0, .int .i64 0, .int .i64 0]) ?_ 2 _ rfl; refine pl ?_; refine blk_put (cs := #[.slice Ao62 t120.length co62, .slice none 0 0, .slice none 0 0, .int .i64 0, .int .i64 0]) ?_ 1 _ rfl; refine pl ?_; refine blk_put (cs := #[.slice none 0 0, .slice none 0 0, .slice none 0 0, .int .i64 0, .int .i64 0]) ?_ 0 _ rfl; exact bx BK131.out)) : gb131 ≠ gb132)); have NB132_131 := As.mk ((by rw [hg]; exact Nat.ne_of_gt (blk_lt (g := gb131) (o := .cells #[.slice Ao62 t120.length co62, .slice Ao66 t123.length co66, .slice Ao67 t126.length co67, .int .i64 t129, .int .i64 t130] 34 (0, 0)) (by refine pl ?_; refine blk_put (cs := #[.slice Ao62 t120.length co62, .slice Ao66 t123.length co66, .slice Ao67 t126.length co67, .int .i64 t129, .int .i64 0]) ?_ 4 _ rfl; refine pl ?_; refine blk_put (cs := #[.slice Ao62 t120.length co62, .slice Ao66 t123.length co66, .slice Ao67 t126.length co67, .int .i64 0, .int .i64 0]) ?_ 3 _ rfl; refine pl ?_; refine blk_put (cs := #[.slice Ao62 t120.length co62, .slice Ao66 t123.length co66, .slice none 0 0, .int .i64 0, .int .i64 0]) ?_ 2 _ rfl; refine pl ?_; refine blk_put (cs := #[.slice Ao62 t120.length co62, .slice none 0 0, .slice none 0 0, .int .i64 0, .int .i64 0]) ?_ 1 _ rfl; refine pl ?_; refine blk_put (cs := #[.slice none 0 0, .slice none 0 0, .slice none 0 0, .int .i64 0, .int .i64 0]) ?_ 0 _ rfl; exact bx BK131.out)) : gb132 ≠ gb131)); replace BK131 := As.mk (blk_below (g := gb131) (o := .cells #[.slice Ao62 t120.length co62, .slice Ao66 t123.length co66, .slice Ao67 t126.length co67, .int .i64 t129, .int .i64 t130] 34 (0, 0)) (by refine pl ?_; refine blk_put (cs := #[.slice Ao62 t120.length co62, .slice Ao66 t123.length co66, .slice Ao67 t126.length co67, .int .i64 t129, .int .i64 0]) ?_ 4 _ rfl; refine pl ?_; refine blk_put (cs := #[.slice Ao62 t120.length co62, .slice Ao66 t123.length co66, .slice Ao67 t126.length co67, .int .i64 0, .int .i64 0]) ?_ 3 _ rfl; refine pl ?_; refine blk_put (cs := #[.slice Ao62 t120.length co62, .slice Ao66 t123.length co66, .slice none 0 0, .int .i64 0, .int .i64 0]) ?_ 2 _ rfl; refine pl ?_; refine blk_put (cs := #[.slice Ao62 t120.length co62, .slice none 0 0, .slice none 0 0, .int .i64 0, .int .i64 0]) ?_ 1 _ rfl; refine pl ?_; refine blk_put (cs := #[.slice none 0 0, .slice none 0 0, .slice none 0 0, .int .i64 0, .int .i64 0]) ?_ 0 _ rfl; exact bx BK131.out) hb); clear hb hbox hg))
  replace HO122 := As.mk (Kd.R_drew HO122.out)
  replace HO125 := As.mk (Kd.R_drew HO125.out)
  replace HO128 := As.mk (Kd.R_drew HO128.out)
  replace BK119 := As.mk (blk_drew BK119.out)
  replace BK131 := As.mk (blk_drew BK131.out)
  replace BK132 := As.mk (blk_drew BK132.out)
  replace HB := As.mk (below_drew1 HB.out)
  refine start_ (n := 21) (S := fun w' => w'.cell? ⟨gb131, 0, none⟩ = some (.slice Ao62 t120.length co62) ∧ w'.cell? ⟨gb131, 1, none⟩ = some (.slice Ao66 t123.length co66) ∧ w'.cell? ⟨gb131, 2, none⟩ = some (.slice Ao67 t126.length co67) ∧ w'.cell? ⟨gb131, 3, none⟩ = some (.int .i64 t129) ∧ w'.cell? ⟨gb131, 4, none⟩ = some (.int .i64 t130) ∧ w'.cell? ⟨gb132, 0, none⟩ = some (.int .i64 a1_0) ∧ w'.cell? ⟨gb132, 1, none⟩ = some (.int .i64 a1_1)) (ds := []) #[O, O, O, O, O, O, O, O, O, O, O, O, O, O, O, O, O, O, O, O, O] (by kernel_rfl) rfl rfl ⟨(blk_cell BK131.out 0).trans rfl, (blk_cell BK131.out 1).trans rfl, (blk_cell BK131.out 2).trans rfl, (blk_cell BK131.out 3).trans rfl, (blk_cell BK131.out 4).trans rfl, (blk_cell BK132.out 0).trans rfl, (blk_cell BK132.out 1).trans rfl⟩ (fun hHeld => ?_)
  generalize w70.drew = w71 at HO122 HO125 HO128 BK119 BK131 BK132 HB hHeld ⊢
  refine pure_ (i := 0) (N := some 4) (v := ?_) (a' := ?_) #[I, O, O, O, O, O, O, O, O, O, O, O, O, O, O, O, O, O, O, O, O] rfl rfl (by kernel_rfl) (fun _ _ _ h => h) (Or.inl ⟨by rfl, ?_⟩) ?_ ?_
  rotate_left
  ·
   intro w'
   go_simp
   with_reducible rfl
  rotate_left
  ·
   simp only [pk, i64_w, i32_w]
   rfl
  refine pure_ (i := 1) (N := some 5) (v := ?_) (a' := ?_) #[I, I, O, O, O, O, O, O, O, O, O, O, O, O, O, O, O, O, O, O, O] rfl rfl (by kernel_rfl) (fun _ _ _ h => h) (Or.inl ⟨by rfl, ?_⟩) ?_ ?_
  rotate_left
  ·
   intro w'
   go_simp
   with_reducible rfl
  rotate_left
  ·
   simp only [pk, i64_w, i32_w]
   rfl
  refine pure_ (i := 2) (N := some 6) (v := ?_) (a' := ?_) #[I, I, I, O, O, O, O, O, O, O, O, O, O, O, O, O, O, O, O, O, O] rfl rfl (by kernel_rfl) (fun _ _ _ h => h) (Or.inl ⟨by rfl, ?_⟩) ?_ ?_
  rotate_left
  ·
   intro w'
   go_simp
   with_reducible rfl
  rotate_left
  ·
   simp only [pk, i64_w, i32_w]
   rfl
  refine take_ (i := 3) (N := some 7) (v := ?_) (a' := ?_) #[I, I, I, I, O, O, O, O, O, O, O, O, O, O, O, O, O, O, O, O, O] rfl rfl (by kernel_rfl) (fun _ _ _ h => h) (Or.inl ⟨by rfl, ?_⟩) hHeld ?_ ?_
  rotate_left
  ·
   rintro w' ⟨s0, s1, s2, s3, s4, s5, s6⟩
   go_simp
   with_reducible rfl
  rotate_left
  ·
   simp only [pk, i64_w, i32_w]
   rfl
  refine pure_ (i := 4) (N := some 8) (v := ?_) (a' := ?_) #[I, I, I, I, I, O, O, O, O, O, O, O, O, O, O, O, O, O, O, O, O] rfl rfl (by kernel_rfl) (fun _ _ _ h => h) (Or.inl ⟨by rfl, ?_⟩) ?_ ?_
  rotate_left
  ·
   intro w'
   go_simp
   with_reducible rfl
  rotate_left
  ·
   simp only [pk, i64_w, i32_w]
   rfl
  refine pure_ (i := 5) (N := some 9) (v := ?_) (a' := ?_) #[I, I, I, I, I, I, O, O, O, O, O, O, O, O, O, O, O, O, O, O, O] rfl rfl (by kernel_rfl) (fun _ _ _ h => h) (Or.inl ⟨by rfl, ?_⟩) ?_ ?_
  rotate_left
  ·
   intro w'
   go_simp
   with_reducible rfl
  rotate_left
  ·
   simp only [pk, i64_w, i32_w]
   rfl
  refine pure_ (i := 6) (N := some 10) (v := ?_) (a' := ?_) #[I, I, I, I, I, I, I, O, O, O, O, O, O, O, O, O, O, O, O, O, O] rfl rfl (by kernel_rfl) (fun _ _ _ h => h) (Or.inl ⟨by rfl, ?_⟩) ?_ ?_
  rotate_left
  ·
   intro w'
   go_simp
   with_reducible rfl
  rotate_left
  ·
   simp only [pk, i64_w, i32_w]
   rfl
  refine take_ (i := 7) (N := some 11) (v := ?_) (a' := ?_) #[I, I, I, I, I, I, I, I, O, O, O, O, O, O, O, O, O, O, O, O, O] rfl rfl (by kernel_rfl) (fun _ _ _ h => h) (Or.inl ⟨by rfl, ?_⟩) hHeld ?_ ?_
  rotate_left
  ·
   rintro w' ⟨s0, s1, s2, s3, s4, s5, s6⟩
   go_simp
   with_reducible rfl
  rotate_left
  ·
   simp only [pk, i64_w, i32_w]
   rfl
  refine pure_ (i := 8) (N := some 12) (v := ?_) (a' := ?_) #[I, I, I, I, I, I, I, I, I, O, O, O, O, O, O, O, O, O, O, O, O] rfl rfl (by kernel_rfl) (fun _ _ _ h => h) (Or.inl ⟨by rfl, ?_⟩) ?_ ?_
  rotate_left
  ·
   intro w'
   go_simp
   with_reducible rfl
  rotate_left
  ·
   simp only [pk, i64_w, i32_w]
   rfl
  refine pure_ (i := 9) (N := some 13) (v := ?_) (a' := ?_) #[I, I, I, I, I, I, I, I, I, I, O, O, O, O, O, O, O, O, O, O, O] rfl rfl (by kernel_rfl) (fun _ _ _ h => h) (Or.inl ⟨by rfl, ?_⟩) ?_ ?_
  rotate_left
  ·
   intro w'
   go_simp
   with_reducible rfl
  rotate_left
  ·
   simp only [pk, i64_w, i32_w]
   rfl
  refine pure_ (i := 10) (N := some 14) (v := ?_) (a' := ?_) #[I, I, I, I, I, I, I, I, I, I, I, O, O, O, O, O, O, O, O, O, O] rfl rfl (by kernel_rfl) (fun _ _ _ h => h) (Or.inl ⟨by rfl, ?_⟩) ?_ ?_
  rotate_left
  ·
   intro w'
   go_simp
   with_reducible rfl
  rotate_left
  ·
   simp only [pk, i64_w, i32_w]
   rfl
  refine pure_ (i := 11) (N := some 15) (v := undef) (a' := ?_) #[I, I, I, I, I, I, I, I, I, I, I, I, O, O, O, O, O, O, O, O, O] rfl rfl (by kernel_rfl) (fun _ _ _ h => h) (Or.inr ⟨by rfl, rfl⟩) ?_ ?_
  rotate_left
  ·
   simp only [pk, i64_w, i32_w]
   rfl
  refine pure_ (i := 12) (N := some 16) (v := undef) (a' := ?_) #[I, I, I, I, I, I, I, I, I, I, I, I, I, O, O, O, O, O, O, O, O] rfl rfl (by kernel_rfl) (fun _ _ _ h => h) (Or.inr ⟨by rfl, rfl⟩) ?_ ?_
  rotate_left
  ·
   simp only [pk, i64_w, i32_w]
   rfl
  refine pure_ (i := 13) (N := some 17) (v := undef) (a' := ?_) #[I, I, I, I, I, I, I, I, I, I, I, I, I, I, O, O, O, O, O, O, O] rfl rfl (by kernel_rfl) (fun _ _ _ h => h) (Or.inr ⟨by rfl, rfl⟩) ?_ ?_
  rotate_left
  ·
   simp only [pk, i64_w, i32_w]
   rfl
  refine pure_ (i := 14) (N := some 18) (v := undef) (a' := ?_) #[I, I, I, I, I, I, I, I, I, I, I, I, I, I, I, O, O, O, O, O, O] rfl rfl (by kernel_rfl) (fun _ _ _ h => h) (Or.inr ⟨by rfl, rfl⟩) ?_ ?_
  rotate_left
  ·
   simp only [pk, i64_w, i32_w]
   rfl
  refine pure_ (i := 15) (N := some 19) (v := undef) (a' := ?_) #[I, I, I, I, I, I, I, I, I, I, I, I, I, I, I, I, O, O, O, O, O] rfl rfl (by kernel_rfl) (fun _ _ _ h => h) (Or.inr ⟨by rfl, rfl⟩) ?_ ?_
  rotate_left
  ·
   simp only [pk, i64_w, i32_w]
   rfl
  refine pure_ (i := 16) (N := some 20) (v := undef) (a' := ?_) #[I, I, I, I, I, I, I, I, I, I, I, I, I, I, I, I, I, O, O, O, O] rfl rfl (by kernel_rfl) (fun _ _ _ h => h) (Or.inr ⟨by rfl, rfl⟩) ?_ ?_
  rotate_left
  ·
   simp only [pk, i64_w, i32_w]
   rfl
  refine pure_ (i := 17) (N := some 21) (v := undef) (a' := ?_) #[I, I, I, I, I, I, I, I, I, I, I, I, I, I, I, I, I, I, O, O, O] rfl rfl (by kernel_rfl) (fun _ _ _ h => h) (Or.inr ⟨by rfl, rfl⟩) ?_ ?_
  rotate_left
  ·
   simp only [pk, i64_w, i32_w]
   rfl
  refine pure_ (i := 18) (N := some 22) (v := undef) (a' := ?_) #[I, I, I, I, I, I, I, I, I, I, I, I, I, I, I, I, I, I, I, O, O] rfl rfl (by kernel_rfl) (fun _ _ _ h => h) (Or.inr ⟨by rfl, rfl⟩) ?_ ?_
  rotate_left
  ·
   simp only [pk, i64_w, i32_w]
   rfl
  refine pure_ (i := 19) (N := some 23) (v := undef) (a' := ?_) #[I, I, I, I, I, I, I, I, I, I, I, I, I, I, I, I, I, I, I, I, O] rfl rfl (by kernel_rfl) (fun _ _ _ h => h) (Or.inr ⟨by rfl, rfl⟩) ?_ ?_
  rotate_left
  ·
   simp only [pk, i64_w, i32_w]
   rfl
  refine pure_ (i := 20) (N := some 24) (v := ?_) (a' := ?_) #[I, I, I, I, I, I, I, I, I, I, I, I, I, I, I, I, I, I, I, I, I] rfl rfl (by kernel_rfl) (fun _ _ _ h => h) (Or.inl ⟨by rfl, ?_⟩) ?_ ?_
  rotate_left
  ·
   intro w'
   go_simp
   with_reducible rfl
  rotate_left
  ·
   simp only [pk, i64_w, i32_w]
   rfl
  refine done_ (by kernel_rfl) ?_
  obtain ⟨hcz72_0, hcz72_1, hcz72_2, hcz72_3, hcz72_4, hfz72_0, hfz72_1, hfz72_2, hfz72_3, hfz72_4⟩ := cl5 BK131.out
  obtain ⟨hcz73_0, hcz73_1, hcz73_2, hcz73_3, hcz73_4, hfz73_0, hfz73_1, hfz73_2, hfz73_3, hfz73_4⟩ := cl5 BK119.out
  try go_wp2_with (first | (with_reducible show bodyPost Try.prog Try.f47 _ _ _ _; (try simp only [Exit.inBlock, Exit.then]); refine bodyPost_end (results_none rfl _ _ _) rfl ?_; simp only []; go_at_K; (try ((first | refine lay_top (by go_cell_look) ?_ | refine lay_top1 (by go_cell_look) ?_ | refine lay_top2 (by go_cell_look) ?_); intro hlay_))))
  refine bodyPost_ret (results_cell_row rfl _ _ gb119 34 #[.slice Ao62 t120.length co62, .slice Ao66 t123.length co66, .slice Ao67 t126.length co67, .int .i64 t129, .int .i64 t130] (0, 0) _ rfl (by refine pl ?_; refine blk_put (cs := #[.slice Ao62 t120.length co62, .slice Ao66 t123.length co66, .slice Ao67 t126.length co67, .int .i64 t129, .int .i64 0]) ?_ 4 _ rfl; refine pl ?_; refine blk_put (cs := #[.slice Ao62 t120.length co62, .slice Ao66 t123.length co66, .slice Ao67 t126.length co67, .int .i64 0, .int .i64 0]) ?_ 3 _ rfl; refine pl ?_; refine blk_put (cs := #[.slice Ao62 t120.length co62, .slice Ao66 t123.length co66, .slice none 0 0, .int .i64 0, .int .i64 0]) ?_ 2 _ rfl; refine pl ?_; refine blk_put (cs := #[.slice Ao62 t120.length co62, .slice none 0 0, .slice none 0 0, .int .i64 0, .int .i64 0]) ?_ 1 _ rfl; refine pl ?_; refine blk_put (cs := #[.slice none 0 0, .slice none 0 0, .slice none 0 0, .int .i64 0, .int .i64 0]) ?_ 0 _ rfl; exact bx BK119.out) Try.underlying34 rfl (by kernel_rfl)) rfl ?_
  exact ⟨_, _, _, by first | rfl | (simp [errW_none, errW_some] <;> rfl) | (simp [*, errW_none, errW_some] <;> rfl), by (with_reducible repeat (first | apply Kd.R_alloc | apply Kd.R_drewN | apply Kd.R_drew)); exact Kd.R_mono (Kd.R_far (p := ⟨gb119, 4, none⟩) (Kd.R_far (p := ⟨gb119, 3, none⟩) (Kd.R_far (p := ⟨gb119, 2, none⟩) (Kd.R_far (p := ⟨gb119, 1, none⟩) (Kd.R_far (p := ⟨gb119, 0, none⟩) (Kd.R_types HO122.out BK119.out (by decide)) (fun _ hk => hk.2) (.slice Ao62 t120.length co62)) (fun _ hk => hk.2) (.slice Ao66 t123.length co66)) (fun _ hk => hk.2) (.slice Ao67 t126.length co67)) (fun _ hk => hk.2) (.int .i64 t129)) (fun _ hk => hk.2) (.int .i64 t130)) (fun _ hk => trivial), by (with_reducible repeat (first | apply Kd.R_alloc | apply Kd.R_drewN | apply Kd.R_drew)); exact Kd.R_mono (Kd.R_far (p := ⟨gb119, 4, none⟩) (Kd.R_far (p := ⟨gb119, 3, none⟩) (Kd.R_far (p := ⟨gb119, 2, none⟩) (Kd.R_far (p := ⟨gb119, 1, none⟩) (Kd.R_far (p := ⟨gb119, 0, none⟩) (Kd.R_types HO125.out BK119.out (by decide)) (fun _ hk => hk.2) (.slice Ao62 t120.length co62)) (fun _ hk => hk.2) (.slice Ao66 t123.length co66)) (fun _ hk => hk.2) (.slice Ao67 t126.length co67)) (fun _ hk => hk.2) (.int .i64 t129)) (fun _ hk => hk.2) (.int .i64 t130)) (fun _ hk => hk.1), by (with_reducible repeat (first | apply Kd.R_alloc | apply Kd.R_drewN | apply Kd.R_drew)); exact Kd.R_mono (Kd.R_far (p := ⟨gb119, 4, none⟩) (Kd.R_far (p := ⟨gb119, 3, none⟩) (Kd.R_far (p := ⟨gb119, 2, none⟩) (Kd.R_far (p := ⟨gb119, 1, none⟩) (Kd.R_far (p := ⟨gb119, 0, none⟩) (Kd.R_types HO128.out BK119.out (by decide)) (fun _ hk => hk.2) (.slice Ao62 t120.length co62)) (fun _ hk => hk.2) (.slice Ao66 t123.length co66)) (fun _ hk => hk.2) (.slice Ao67 t126.length co67)) (fun _ hk => hk.2) (.int .i64 t129)) (fun _ hk => hk.2) (.int .i64 t130)) (fun _ hk => hk.1), be w⟩
 rw [if_pos c5] at H
 have c5b0 : (a1_0 == 2) = true := beq_iff_eq.mpr c5
 have c5b1 : (a1_0 != 2) = false := bne_eq_false_iff_eq.mpr c5
 clear c5
 obtain ⟨t133, A60, H⟩ := Option.bind_eq_some_iff.mp H
 try dsimp only at H
 have A6 := As.mk A60
 clear A60
 by_cases c7 : t133 = true
 rotate_left
 ·
  replace c7 := Bool.eq_false_iff.mpr c7
  subst c7
  rw [if_neg (show ¬ (false = true) by decide)] at H
  simp only [Option.some.injEq, Prod.mk.injEq] at H
  obtain ⟨rfl, rfl, rfl, rfl, rfl⟩ := H
  go_enter Try.func22, Try.ntmps22
  try go_wp2_with (first | ((with_reducible refine gate_dst (N := 2) rfl ?_); refine box_event ?hg (N := 2) ?hd (cs := #[.slice A0_0 l0_0.length c0_0, .slice A0_1 l0_1.length c0_1, .slice A0_2 l0_2.length c0_2, .int .i64 a0_3, .int .i64 a0_4]) (t := 34) ?hr ?_; (case hd => rfl); (case hg => rfl); (case hr => first | (go_simp; done) | (go_simp; rfl)); intro gb117 hg w34 hbox hb; have BK117 := As.mk (hbox); have GW117 := As.mk (gs w hg); have GE117 := As.mk (gs w hg); replace HB := As.mk (below_step (be w) hb); clear hb hbox hg) | ((with_reducible refine gate_dst (N := 3) rfl ?_); refine box_event ?hg (N := 3) ?hd (cs := #[.int .i64 a1_0, .int .i64 a1_1]) (t := 37) ?hr ?_; (case hd => rfl); (case hg => rfl); (case hr => first | (go_simp; done) | (go_simp; rfl)); intro gb118 hg w35 hbox hb; have BK118 := As.mk (hbox); have GW118 := As.mk (gs w hg); have GE118 := As.mk (gs w hg); replace HB := As.mk (below_step (be w) hb); have NB117_118 := As.mk (nl hg (bx BK117.out)); have NB118_117 := As.mk (ng hg (bx BK117.out)); replace BK117 := As.mk (blk_below (bx BK117.out) hb); clear hb hbox hg) | ((with_reducible refine gate_dst (N := 4) rfl ?_); refine box_event ?hg (N := 4) ?hd (cs := #[.slice none 0 0, .slice none 0 0, .slice none 0 0, .int .i64 0, .int .i64 0]) (t := 34) ?hr ?_; (case hd => rfl); (case hg => rfl); (case hr => first | (go_simp; done) | (go_simp; rfl)); intro gb119 hg w36 hbox hb; have BK119 := As.mk (hbox); have GW119 := As.mk (gs w hg); have GE119 := As.mk (gs w hg); replace HB := As.mk (below_step (be w) hb); have NB117_119 := As.mk (nl hg (bx BK117.out)); have NB119_117 := As.mk (ng hg (bx BK117.out)); replace BK117 := As.mk (blk_below (bx BK117.out) hb); have NB118_119 := As.mk (nl hg (bx BK118.out)); have NB119_118 := As.mk (ng hg (bx BK118.out)); replace BK118 := As.mk (blk_below (bx BK118.out) hb); clear hb hbox hg; have hnb37 := NB117_118.out; have hnc37 := NB118_117.out; have hnb38 := NB117_119.out; have hnc38 := NB119_117.out; obtain ⟨hcz39_0, hcz39_1, hcz39_2, hcz39_3, hcz39_4, hfz39_0, hfz39_1, hfz39_2, hfz39_3, hfz39_4⟩ := cl5 BK117.out) | ((with_reducible refine gate_callee (f := 42) rfl ?_); refine goesL_ (some 7) rfl rfl Try.func42 (by kernel_rfl) rfl #[.agg #[.slice A0_0 l0_0.length c0_0, .slice A0_1 l0_1.length c0_1, .slice A0_2 l0_2.length c0_2, .int .i64 a0_3, .int .i64 a0_4]] rfl (by (try simp only [lm]); first | done | rfl | (simp only [List.length_drop, List.length_take]; rfl)) ?_; (with_reducible refine (impl_copyMemory.calls _ _ l0_0 _ _ l0_1 _ _ l0_2 a0_3 a0_4 t120 t123 t126 t129 t130 _ ?side1 ?side2 ?side3 ?side4 ?side5 ?side6 A3.out).mono ?_); (case side1 => exact Kd.C_below HR0_0.out (be w)); (case side2 => exact HC0_0.out); (case side3 => exact Kd.C_below HR0_1.out (be w)); (case side4 => exact HC0_1.out); (case side5 => exact Kd.C_below HR0_2.out (be w)); (case side6 => exact HC0_2.out); rintro e w40 ⟨v121, v124, v127, rfl, ho0, ho1, ho2, hb⟩; refine ⟨_, rfl, ?_⟩; have HO122 := As.mk (Kd.R_lower ho0 (below_size (be w))); have HO125 := As.mk (Kd.R_lower ho1 (below_size (be w))); have HO128 := As.mk (Kd.R_lower ho2 (below_size (be w))); replace BK118 := As.mk (blk_below (bx BK118.out) hb); replace BK119 := As.mk (blk_below (bx BK119.out) hb); replace HB := As.mk (below_step (be w) hb); (try clear hb); (try clear hb2); (try clear hk); (try clear hi); (try clear ho0); (try clear ho1); (try clear ho2)) | ((with_reducible refine gate_dst (N := 5) rfl ?_); refine box_event ?hg (N := 5) ?hd (cs := #[.slice none 0 0, .slice none 0 0, .slice none 0 0, .int .i64 0, .int .i64 0]) (t := 34) ?hr ?_; (case hd => rfl); (case hg => rfl); (case hr => first | (go_simp; done) | (go_simp; rfl)); intro gb131 hg w41 hbox hb; replace HO122 := As.mk (Kd.R_below (by (with_reducible repeat (first | apply Kd.R_alloc | apply Kd.R_drewN | apply Kd.R_drew)); exact HO122.out) hb); replace HO125 := As.mk (Kd.R_below (by (with_reducible repeat (first | apply Kd.R_alloc | apply Kd.R_drewN | apply Kd.R_drew)); exact HO125.out) hb); replace HO128 := As.mk (Kd.R_below (by (with_reducible repeat (first | apply Kd.R_alloc | apply Kd.R_drewN | apply Kd.R_drew)); exact HO128.out) hb); have BK131 := As.mk (hbox); have GW131 := As.mk (gs w hg); have GE131 := As.mk (gs w hg); replace HB := As.mk (below_step (be w) hb); have NB118_131 := As.mk (nl hg (bx BK118.out)); have NB131_118 := As.mk (ng hg (bx BK118.out)); replace BK118 := As.mk (blk_below (bx BK118.out) hb); have NB119_131 := As.mk (nl hg (bx BK119.out)); have NB131_119 := As.mk (ng hg (bx BK119.out)); replace BK119 := As.mk (blk_below (bx BK119.out) hb); clear hb hbox hg; obtain ⟨Ao42, co42, eo42⟩ := Kd.R_slice HO122.out; subst eo42; have hnb43 := NB131_118.out; have hnc43 := NB118_131.out; have hnb44 := NB131_119.out; have hnc44 := NB119_131.out; obtain ⟨hcz45_0, hcz45_1, hcz45_2, hcz45_3, hcz45_4, hfz45_0, hfz45_1, hfz45_2, hfz45_3, hfz45_4⟩ := cl5 BK131.out; obtain ⟨Ao46, co46, eo46⟩ := Kd.R_slice HO125.out; subst eo46; obtain ⟨Ao47, co47, eo47⟩ := Kd.R_slice HO128.out; subst eo47; have hnb48 := NB118_119.out; have hnc48 := NB119_118.out; obtain ⟨hcz49_0, hcz49_1, hfz49_0, hfz49_1⟩ := cl2 BK118.out) | (go_at_call 47; go_in) | ((with_reducible refine gate_dst (N := 3) rfl ?_); refine box_event ?hg (N := 3) ?hd (cs := #[.int .i64 a1_0, .int .i64 a1_1]) (t := 37) ?hr ?_; (case hd => rfl); (case hg => rfl); (case hr => first | (go_simp; done) | (go_simp; rfl)); intro gb132 hg w50 hbox hb; replace HO122 := As.mk (Kd.R_below (by (with_reducible repeat (first | apply Kd.R_alloc | apply Kd.R_drewN | apply Kd.R_drew)); exact (Kd.R_mono (Kd.R_far (p := ⟨gb131, 4, none⟩) (Kd.R_far (p := ⟨gb131, 3, none⟩) (Kd.R_far (p := ⟨gb131, 2, none⟩) (Kd.R_far (p := ⟨gb131, 1, none⟩) (Kd.R_far (p := ⟨gb131, 0, none⟩) (Kd.R_types HO122.out BK131.out (by decide)) (fun _ hk => hk.2) (.slice Ao42 t120.length co42)) (fun _ hk => hk.2) (.slice Ao46 t123.length co46)) (fun _ hk => hk.2) (.slice Ao47 t126.length co47)) (fun _ hk => hk.2) (.int .i64 t129)) (fun _ hk => hk.2) (.int .i64 t130)) (fun _ h_ => h_.1))) hb); replace HO125 := As.mk (Kd.R_below (by (with_reducible repeat (first | apply Kd.R_alloc | apply Kd.R_drewN | apply Kd.R_drew)); exact (Kd.R_mono (Kd.R_far (p := ⟨gb131, 4, none⟩) (Kd.R_far (p := ⟨gb131, 3, none⟩) (Kd.R_far (p := ⟨gb131, 2, none⟩) (Kd.R_far (p := ⟨gb131, 1, none⟩) (Kd.R_far (p := ⟨gb131, 0, none⟩) (Kd.R_types HO125.out BK131.out (by decide)) (fun _ hk => hk.2) (.slice Ao42 t120.length co42)) (fun _ hk => hk.2) (.slice Ao46 t123.length co46)) (fun _ hk => hk.2) (.slice Ao47 t126.length co47)) (fun _ hk => hk.2) (.int .i64 t129)) (fun _ hk => hk.2) (.int .i64 t130)) (fun _ h_ => h_.1))) hb); replace HO128 := As.mk (Kd.R_below (by (with_reducible repeat (first | apply Kd.R_alloc | apply Kd.R_drewN | apply Kd.R_drew)); exact (Kd.R_mono (Kd.R_far (p := ⟨gb131, 4, none⟩) (Kd.R_far (p := ⟨gb131, 3, none⟩) (Kd.R_far (p := ⟨gb131, 2, none⟩) (Kd.R_far (p := ⟨gb131, 1, none⟩) (Kd.R_far (p := ⟨gb131, 0, none⟩) (Kd.R_types HO128.out BK131.out (by decide)) (fun _ hk => hk.2) (.slice Ao42 t120.length co42)) (fun _ hk => hk.2) (.slice Ao46 t123.length co46)) (fun _ hk => hk.2) (.slice Ao47 t126.length co47)) (fun _ hk => hk.2) (.int .i64 t129)) (fun _ hk => hk.2) (.int .i64 t130)) (fun _ h_ => h_.1))) hb); have BK132 := As.mk (hbox); have GW132 := As.mk (gs w hg); have GE132 := As.mk (gs w hg); replace HB := As.mk (below_step (be w) hb); have NB118_132 := As.mk ((by rw [hg]; exact Nat.ne_of_lt (blk_lt (g := gb118) (o := .cells #[.int .i64 a1_0, .int .i64 a1_1] 37 (0, 0)) (by refine pl ?_; refine blk_far ?_ NB118_131.out _; refine pl ?_; refine blk_far ?_ NB118_131.out _; refine pl ?_; refine blk_far ?_ NB118_131.out _; refine pl ?_; refine blk_far ?_ NB118_131.out _; refine pl ?_; refine blk_far ?_ NB118_131.out _; exact bx BK118.out)) : gb118 ≠ gb132)); have NB132_118 := As.mk ((by rw [hg]; exact Nat.ne_of_gt (blk_lt (g := gb118) (o := .cells #[.int .i64 a1_0, .int .i64 a1_1] 37 (0, 0)) (by refine pl ?_; refine blk_far ?_ NB118_131.out _; refine pl ?_; refine blk_far ?_ NB118_131.out _; refine pl ?_; refine blk_far ?_ NB118_131.out _; refine pl ?_; refine blk_far ?_ NB118_131.out _; refine pl ?_; refine blk_far ?_ NB118_131.out _; exact bx BK118.out)) : gb132 ≠ gb118)); replace BK118 := As.mk (blk_below (g := gb118) (o := .cells #[.int .i64 a1_0, .int .i64 a1_1] 37 (0, 0)) (by refine pl ?_; refine blk_far ?_ NB118_131.out _; refine pl ?_; refine blk_far ?_ NB118_131.out _; refine pl ?_; refine blk_far ?_ NB118_131.out _; refine pl ?_; refine blk_far ?_ NB118_131.out _; refine pl ?_; refine blk_far ?_ NB118_131.out _; exact bx BK118.out) hb); have NB119_132 := As.mk ((by rw [hg]; exact Nat.ne_of_lt (blk_lt (g := gb119) (o := .cells #[.slice none 0 0, .slice none 0 0, .slice none 0 0, .int .i64 0, .int .i64 0] 34 (0, 0)) (by refine pl ?_; refine blk_far ?_ NB119_131.out _; refine pl ?_; refine blk_far ?_ NB119_131.out _; refine pl ?_; refine blk_far ?_ NB119_131.out _; refine pl ?_; refine blk_far ?_ NB119_131.out _; refine pl ?_; refine blk_far ?_ NB119_131.out _; exact bx BK119.out)) : gb119 ≠ gb132)); have NB132_119 := As.mk ((by rw [hg]; exact Nat.ne_of_gt (blk_lt (g := gb119) (o := .cells #[.slice none 0 0, .slice none 0 0, .slice none 0 0, .int .i64 0, .int .i64 0] 34 (0, 0)) (by refine pl ?_; refine blk_far ?_ NB119_131.out _; refine pl ?_; refine blk_far ?_ NB119_131.out _; refine pl ?_; refine blk_far ?_ NB119_131.out _; refine pl ?_; refine blk_far ?_ NB119_131.out _; refine pl ?_; refine blk_far ?_ NB119_131.out _; exact bx BK119.out)) : gb132 ≠ gb119)); replace BK119 := As.mk (blk_below (g := gb119) (o := .cells #[.slice none 0 0, .slice none 0 0, .slice none 0 0, .int .i64 0, .int .i64 0] 34 (0, 0)) (by refine pl ?_; refine blk_far ?_ NB119_131.out _; refine pl ?_; refine blk_far ?_ NB119_131.out _; refine pl ?_; refine blk_far ?_ NB119_131.out _; refine pl ?_; refine blk_far ?_ NB119_131.out _; refine pl ?_; refine blk_far ?_ NB119_131.out _; exact bx BK119.out) hb); have NB131_132 := As.mk ((by rw [hg]; exact Nat.ne_of_lt (blk_lt (g := gb131) (o := .cells #[.slice Ao42 t120.length co42, .slice Ao46 t123.length co46, .slice Ao47 t126.length co47, .int .i64 t129, .int .i64 t130] 34 (0, 0)) (by refine pl ?_; refine blk_put (cs := #[.slice Ao42 t120.length co42, .slice Ao46 t123.length co46, .slice Ao47 t126.length co47, .int .i64 t129, .int .i64 0]) ?_ 4 _ rfl; refine pl ?_; refine blk_put (cs := #[.slice Ao42 t120.length co42, .slice Ao46 t123.length co46, .slice Ao47 t126.length co47, .int .i64 0, .int .i64 0]) ?_ 3 _ rfl; refine pl ?_; refine blk_put (cs := #[.slice Ao42 t120.length co42, .slice Ao46 t123.length co46, .slice none 0 0, .int .i64 0, .int .i64 0]) ?_ 2 _ rfl; refine pl ?_; refine blk_put (cs := #[.slice Ao42 t120.length co42, .slice none 0 0, .slice none 0 0, .int .i64 0, .int .i64 0]) ?_ 1 _ rfl; refine pl ?_; refine blk_put (cs := #[.slice none 0 0, .slice none 0 0, .slice none 0 0, .int .i64 0, .int .i64 0]) ?_ 0 _ rfl; exact bx BK131.out)) : gb131 ≠ gb132)); have NB132_131 := As.mk ((by rw [hg]; exact Nat.ne_of_gt (blk_lt (g := gb131) (o := .cells #[.slice Ao42 t120.length co42, .slice Ao46 t123.length co46, .slice Ao47 t126.length co47, .int .i64 t129, .int .i64 t130] 34 (0, 0)) (by refine pl ?_; refine blk_put (cs := #[.slice Ao42 t120.length co42, .slice Ao46 t123.length co46, .slice Ao47 t126.length co47, .int .i64 t129, .int .i64 0]) ?_ 4 _ rfl; refine pl ?_; refine blk_put (cs := #[.slice Ao42 t120.length co42, .slice Ao46 t123.length co46, .slice Ao47 t126.length co47, .int .i64 0, .int .i64 0]) ?_ 3 _ rfl; refine pl ?_; refine blk_put (cs := #[.slice Ao42 t120.length co42, .slice Ao46 t123.length co46, .slice none 0 0, .int .i64 0, .int .i64 0]) ?_ 2 _ rfl; refine pl ?_; refine blk_put (cs := #[.slice Ao42 t120.length co42, .slice none 0 0, .slice none 0 0, .int .i64 0, .int .i64 0]) ?_ 1 _ rfl; refine pl ?_; refine blk_put (cs := #[.slice none 0 0, .slice none 0 0, .slice none 0 0, .int .i64 0, .int .i64 0]) ?_ 0 _ rfl; exact bx BK131.out)) : gb132 ≠ gb131)); replace BK131 := As.mk (blk_below (g := gb131) (o := .cells #[.slice Ao42 t120.length co42, .slice Ao46 t123.length co46, .slice Ao47 t126.length co47, .int .i64 t129, .int .i64 t130] 34 (0, 0)) (by refine pl ?_; refine blk_put (cs := #[.slice Ao42 t120.length co42, .slice Ao46 t123.length co46, .slice Ao47 t126.length co47, .int .i64 t129, .int .i64 0]) ?_ 4 _ rfl; refine pl ?_; refine blk_put (cs := #[.slice Ao42 t120.length co42, .slice Ao46 t123.length co46, .slice Ao47 t126.length co47, .int .i64 0, .int .i64 0]) ?_ 3 _ rfl; refine pl ?_; refine blk_put (cs := #[.slice Ao42 t120.length co42, .slice Ao46 t123.length co46, .slice none 0 0, .int .i64 0, .int .i64 0]) ?_ 2 _ rfl; refine pl ?_; refine blk_put (cs := #[.slice Ao42 t120.length co42, .slice none 0 0, .slice none 0 0, .int .i64 0, .int .i64 0]) ?_ 1 _ rfl; refine pl ?_; refine blk_put (cs := #[.slice none 0 0, .slice none 0 0, .slice none 0 0, .int .i64 0, .int .i64 0]) ?_ 0 _ rfl; exact bx BK131.out) hb); clear hb hbox hg))
  replace HO122 := As.mk (Kd.R_drew HO122.out)
  replace HO125 := As.mk (Kd.R_drew HO125.out)
  replace HO128 := As.mk (Kd.R_drew HO128.out)
  replace BK119 := As.mk (blk_drew BK119.out)
  replace BK131 := As.mk (blk_drew BK131.out)
  replace BK132 := As.mk (blk_drew BK132.out)
  replace HB := As.mk (below_drew1 HB.out)
  refine start_ (n := 21) (S := fun w' => w'.cell? ⟨gb131, 0, none⟩ = some (.slice Ao42 t120.length co42) ∧ w'.cell? ⟨gb131, 1, none⟩ = some (.slice Ao46 t123.length co46) ∧ w'.cell? ⟨gb131, 2, none⟩ = some (.slice Ao47 t126.length co47) ∧ w'.cell? ⟨gb131, 3, none⟩ = some (.int .i64 t129) ∧ w'.cell? ⟨gb131, 4, none⟩ = some (.int .i64 t130) ∧ w'.cell? ⟨gb132, 0, none⟩ = some (.int .i64 a1_0) ∧ w'.cell? ⟨gb132, 1, none⟩ = some (.int .i64 a1_1)) (ds := []) #[O, O, O, O, O, O, O, O, O, O, O, O, O, O, O, O, O, O, O, O, O] (by kernel_rfl) rfl rfl ⟨(blk_cell BK131.out 0).trans rfl, (blk_cell BK131.out 1).trans rfl, (blk_cell BK131.out 2).trans rfl, (blk_cell BK131.out 3).trans rfl, (blk_cell BK131.out 4).trans rfl, (blk_cell BK132.out 0).trans rfl, (blk_cell BK132.out 1).trans rfl⟩ (fun hHeld => ?_)
  generalize w50.drew = w51 at HO122 HO125 HO128 BK119 BK131 BK132 HB hHeld ⊢
  refine pure_ (i := 0) (N := some 4) (v := ?_) (a' := ?_) #[I, O, O, O, O, O, O, O, O, O, O, O, O, O, O, O, O, O, O, O, O] rfl rfl (by kernel_rfl) (fun _ _ _ h => h) (Or.inl ⟨by rfl, ?_⟩) ?_ ?_
  rotate_left
  ·
   intro w'
   go_simp
   with_reducible rfl
  rotate_left
  ·
   simp only [pk, i64_w, i32_w]
   rfl
  refine pure_ (i := 1) (N := some 5) (v := ?_) (a' := ?_) #[I, I, O, O, O, O, O, O, O, O, O, O, O, O, O, O, O, O, O, O, O] rfl rfl (by kernel_rfl) (fun _ _ _ h => h) (Or.inl ⟨by rfl, ?_⟩) ?_ ?_
  rotate_left
  ·
   intro w'
   go_simp
   with_reducible rfl
  rotate_left
  ·
   simp only [pk, i64_w, i32_w]
   rfl
  refine pure_ (i := 2) (N := some 6) (v := ?_) (a' := ?_) #[I, I, I, O, O, O, O, O, O, O, O, O, O, O, O, O, O, O, O, O, O] rfl rfl (by kernel_rfl) (fun _ _ _ h => h) (Or.inl ⟨by rfl, ?_⟩) ?_ ?_
  rotate_left
  ·
   intro w'
   go_simp
   with_reducible rfl
  rotate_left
  ·
   simp only [pk, i64_w, i32_w]
   rfl
  refine take_ (i := 3) (N := some 7) (v := ?_) (a' := ?_) #[I, I, I, I, O, O, O, O, O, O, O, O, O, O, O, O, O, O, O, O, O] rfl rfl (by kernel_rfl) (fun _ _ _ h => h) (Or.inl ⟨by rfl, ?_⟩) hHeld ?_ ?_
  rotate_left
  ·
   rintro w' ⟨s0, s1, s2, s3, s4, s5, s6⟩
   go_simp
   with_reducible rfl
  rotate_left
  ·
   simp only [pk, i64_w, i32_w]
   rfl
  refine pure_ (i := 4) (N := some 8) (v := ?_) (a' := ?_) #[I, I, I, I, I, O, O, O, O, O, O, O, O, O, O, O, O, O, O, O, O] rfl rfl (by kernel_rfl) (fun _ _ _ h => h) (Or.inl ⟨by rfl, ?_⟩) ?_ ?_
  rotate_left
  ·
   intro w'
   go_simp
   with_reducible rfl
  rotate_left
  ·
   simp only [pk, i64_w, i32_w]
   rfl
  refine pure_ (i := 5) (N := some 9) (v := ?_) (a' := ?_) #[I, I, I, I, I, I, O, O, O, O, O, O, O, O, O, O, O, O, O, O, O] rfl rfl (by kernel_rfl) (fun _ _ _ h => h) (Or.inl ⟨by rfl, ?_⟩) ?_ ?_
  rotate_left
  ·
   intro w'
   go_simp
   with_reducible rfl
  rotate_left
  ·
   simp only [pk, i64_w, i32_w]
   rfl
  refine pure_ (i := 6) (N := some 10) (v := ?_) (a' := ?_) #[I, I, I, I, I, I, I, O, O, O, O, O, O, O, O, O, O, O, O, O, O] rfl rfl (by kernel_rfl) (fun _ _ _ h => h) (Or.inl ⟨by rfl, ?_⟩) ?_ ?_
  rotate_left
  ·
   intro w'
   go_simp
   with_reducible rfl
  rotate_left
  ·
   simp only [pk, i64_w, i32_w]
   rfl
  refine take_ (i := 7) (N := some 11) (v := ?_) (a' := ?_) #[I, I, I, I, I, I, I, I, O, O, O, O, O, O, O, O, O, O, O, O, O] rfl rfl (by kernel_rfl) (fun _ _ _ h => h) (Or.inl ⟨by rfl, ?_⟩) hHeld ?_ ?_
  rotate_left
  ·
   rintro w' ⟨s0, s1, s2, s3, s4, s5, s6⟩
   go_simp
   with_reducible rfl
  rotate_left
  ·
   simp only [pk, i64_w, i32_w]
   rfl
  refine pure_ (i := 8) (N := some 12) (v := ?_) (a' := ?_) #[I, I, I, I, I, I, I, I, I, O, O, O, O, O, O, O, O, O, O, O, O] rfl rfl (by kernel_rfl) (fun _ _ _ h => h) (Or.inl ⟨by rfl, ?_⟩) ?_ ?_
  rotate_left
  ·
   intro w'
   go_simp
   with_reducible rfl
  rotate_left
  ·
   simp only [pk, i64_w, i32_w]
   rfl
  refine pure_ (i := 9) (N := some 13) (v := ?_) (a' := ?_) #[I, I, I, I, I, I, I, I, I, I, O, O, O, O, O, O, O, O, O, O, O] rfl rfl (by kernel_rfl) (fun _ _ _ h => h) (Or.inl ⟨by rfl, ?_⟩) ?_ ?_
  rotate_left
  ·
   intro w'
   go_simp
   with_reducible rfl
  rotate_left
  ·
   simp only [pk, i64_w, i32_w]
   rfl
  refine pure_ (i := 10) (N := some 14) (v := ?_) (a' := ?_) #[I, I, I, I, I, I, I, I, I, I, I, O, O, O, O, O, O, O, O, O, O] rfl rfl (by kernel_rfl) (fun _ _ _ h => h) (Or.inl ⟨by rfl, ?_⟩) ?_ ?_
  rotate_left
  ·
   intro w'
   go_simp
   with_reducible rfl
  rotate_left
  ·
   simp only [pk, i64_w, i32_w]
   rfl
  refine pure_ (i := 11) (N := some 15) (v := ?_) (a' := ?_) #[I, I, I, I, I, I, I, I, I, I, I, I, O, O, O, O, O, O, O, O, O] rfl rfl (by kernel_rfl) (fun _ _ _ h => h) (Or.inl ⟨by rfl, ?_⟩) ?_ ?_
  rotate_left
  ·
   intro w'
   go_simp
   with_reducible rfl
  rotate_left
  ·
   simp only [pk, i64_w, i32_w]
   rfl
  refine pure_ (i := 13) (N := some 17) (v := ?_) (a' := ?_) #[I, I, I, I, I, I, I, I, I, I, I, I, O, I, O, O, O, O, O, O, O] rfl rfl (by kernel_rfl) (fun _ _ _ h => h) (Or.inl ⟨by rfl, ?_⟩) ?_ ?_
  rotate_left
  ·
   intro w'
   go_simp
   with_reducible rfl
  rotate_left
  ·
   simp only [pk, i64_w, i32_w]
   rfl
  refine pure_ (i := 14) (N := some 18) (v := ?_) (a' := ?_) #[I, I, I, I, I, I, I, I, I, I, I, I, O, I, I, O, O, O, O, O, O] rfl rfl (by kernel_rfl) (fun _ _ _ h => h) (Or.inl ⟨by rfl, ?_⟩) ?_ ?_
  rotate_left
  ·
   intro w'
   go_simp
   with_reducible rfl
  rotate_left
  ·
   simp only [pk, i64_w, i32_w]
   rfl
  refine pure_ (i := 15) (N := some 19) (v := ?_) (a' := ?_) #[I, I, I, I, I, I, I, I, I, I, I, I, O, I, I, I, O, O, O, O, O] rfl rfl (by kernel_rfl) (fun _ _ _ h => h) (Or.inl ⟨by rfl, ?_⟩) ?_ ?_
  rotate_left
  ·
   intro w'
   go_simp
   with_reducible rfl
  rotate_left
  ·
   simp only [pk, i64_w, i32_w]
   rfl
  refine take_ (i := 12) (N := some 16) (v := ?_) (a' := ?_) #[I, I, I, I, I, I, I, I, I, I, I, I, I, I, I, I, O, O, O, O, O] rfl rfl (by kernel_rfl) (fun _ _ _ h => h) (Or.inl ⟨by rfl, ?_⟩) hHeld ?_ ?_
  rotate_left
  ·
   rintro w' ⟨s0, s1, s2, s3, s4, s5, s6⟩
   go_simp
   with_reducible rfl
  rotate_left
  ·
   simp only [pk, i64_w, i32_w]
   rfl
  refine take_ (i := 16) (N := some 20) (v := ?_) (a' := ?_) #[I, I, I, I, I, I, I, I, I, I, I, I, I, I, I, I, I, O, O, O, O] rfl rfl (by kernel_rfl) (fun _ _ _ h => h) (Or.inl ⟨by rfl, ?_⟩) hHeld ?_ ?_
  rotate_left
  ·
   rintro w' ⟨s0, s1, s2, s3, s4, s5, s6⟩
   go_simp
   with_reducible rfl
  rotate_left
  ·
   simp only [pk, i64_w, i32_w]
   rfl
  refine pure_ (i := 17) (N := some 21) (v := ?_) (a' := ?_) #[I, I, I, I, I, I, I, I, I, I, I, I, I, I, I, I, I, I, O, O, O] rfl rfl (by kernel_rfl) (fun _ _ _ h => h) (Or.inl ⟨by rfl, ?_⟩) ?_ ?_
  rotate_left
  ·
   intro w'
   go_simp
   with_reducible rfl
  rotate_left
  ·
   simp only [pk, i64_w, i32_w]
   rfl
  refine pure_ (i := 18) (N := some 22) (v := ?_) (a' := ?_) #[I, I, I, I, I, I, I, I, I, I, I, I, I, I, I, I, I, I, I, O, O] rfl rfl (by kernel_rfl) (fun _ _ _ h => h) (Or.inl ⟨by rfl, ?_⟩) ?_ ?_
  rotate_left
  ·
   intro w'
   go_simp
   with_reducible rfl
  rotate_left
  ·
   simp only [pk, i64_w, i32_w]
   rfl
  refine one_ (i := 19) (N := some 23) #[I, I, I, I, I, I, I, I, I, I, I, I, I, I, I, I, I, I, I, I, O] rfl rfl (by kernel_rfl) (by decide) (fun K hK => ?_)
  refine goes_ Try.func71 (by kernel_rfl) rfl #[.int .i64 a1_1, .int .i64 0, .int .i64 (wrap64 ((t120.length : Int) - 1))] (by rfl) rfl rfl (by (try simp only [lm]); first | done | rfl | (simp only [List.length_drop, List.length_take]; rfl)) ?_
  with_reducible refine (impl_in.calls a1_1 0 (wrap64 ((t120.length : Int) - 1)) false _ A6.out).mono ?_
  rintro e w' ⟨rfl, ⟨nd, rfl⟩⟩
  refine ⟨_, rfl, ?_⟩
  refine hK.out _ _ ⟨(blk_cell BK131.out 0).trans rfl, (blk_cell BK131.out 1).trans rfl, (blk_cell BK131.out 2).trans rfl, (blk_cell BK131.out 3).trans rfl, (blk_cell BK131.out 4).trans rfl, (blk_cell BK132.out 0).trans rfl, (blk_cell BK132.out 1).trans rfl⟩ (fun hHeld => ?_)
  clear hK K
  refine norm_ (a' := ?_) ?_ ?_
  rotate_left
  ·
   show Act.put _ (some 23) _ = _
   simp only [pk, i64_w, i32_w]
   rfl
  refine pure_ (i := 20) (N := some 24) (v := ?_) (a' := ?_) #[I, I, I, I, I, I, I, I, I, I, I, I, I, I, I, I, I, I, I, I, I] rfl rfl (by kernel_rfl) (fun _ _ _ h => h) (Or.inl ⟨by rfl, ?_⟩) ?_ ?_
  rotate_left
  ·
   intro w'
   go_simp
   with_reducible rfl
  rotate_left
  ·
   simp only [pk, i64_w, i32_w]
   rfl
  refine done_ (by kernel_rfl) ?_
  obtain ⟨hcz52_0, hcz52_1, hcz52_2, hcz52_3, hcz52_4, hfz52_0, hfz52_1, hfz52_2, hfz52_3, hfz52_4⟩ := cl5 BK131.out
  obtain ⟨hcz53_0, hcz53_1, hcz53_2, hcz53_3, hcz53_4, hfz53_0, hfz53_1, hfz53_2, hfz53_3, hfz53_4⟩ := cl5 BK119.out
  try go_wp2_with (first | (with_reducible show bodyPost Try.prog Try.f47 _ _ _ _; (try simp only [Exit.inBlock, Exit.then]); refine bodyPost_end (results_none rfl _ _ _) rfl ?_; simp only []; go_at_K; (try ((first | refine lay_top (by go_cell_look) ?_ | refine lay_top1 (by go_cell_look) ?_ | refine lay_top2 (by go_cell_look) ?_); intro hlay_))))
  refine bodyPost_ret (results_cell_row rfl _ _ gb119 34 #[.slice Ao42 t120.length co42, .slice Ao46 t123.length co46, .slice Ao47 t126.length co47, .int .i64 t129, .int .i64 t130] (0, 0) _ rfl (by refine pl ?_; refine blk_put (cs := #[.slice Ao42 t120.length co42, .slice Ao46 t123.length co46, .slice Ao47 t126.length co47, .int .i64 t129, .int .i64 0]) ?_ 4 _ rfl; refine pl ?_; refine blk_put (cs := #[.slice Ao42 t120.length co42, .slice Ao46 t123.length co46, .slice Ao47 t126.length co47, .int .i64 0, .int .i64 0]) ?_ 3 _ rfl; refine pl ?_; refine blk_put (cs := #[.slice Ao42 t120.length co42, .slice Ao46 t123.length co46, .slice none 0 0, .int .i64 0, .int .i64 0]) ?_ 2 _ rfl; refine pl ?_; refine blk_put (cs := #[.slice Ao42 t120.length co42, .slice none 0 0, .slice none 0 0, .int .i64 0, .int .i64 0]) ?_ 1 _ rfl; refine pl ?_; refine blk_put (cs := #[.slice none 0 0, .slice none 0 0, .slice none 0 0, .int .i64 0, .int .i64 0]) ?_ 0 _ rfl; exact bx BK119.out) Try.underlying34 rfl (by kernel_rfl)) rfl ?_
  exact ⟨_, _, _, by first | rfl | (simp [errW_none, errW_some] <;> rfl) | (simp [*, errW_none, errW_some] <;> rfl), by (with_reducible repeat (first | apply Kd.R_alloc | apply Kd.R_drewN | apply Kd.R_drew)); exact Kd.R_mono (Kd.R_far (p := ⟨gb119, 4, none⟩) (Kd.R_far (p := ⟨gb119, 3, none⟩) (Kd.R_far (p := ⟨gb119, 2, none⟩) (Kd.R_far (p := ⟨gb119, 1, none⟩) (Kd.R_far (p := ⟨gb119, 0, none⟩) (Kd.R_types HO122.out BK119.out (by decide)) (fun _ hk => hk.2) (.slice Ao42 t120.length co42)) (fun _ hk => hk.2) (.slice Ao46 t123.length co46)) (fun _ hk => hk.2) (.slice Ao47 t126.length co47)) (fun _ hk => hk.2) (.int .i64 t129)) (fun _ hk => hk.2) (.int .i64 t130)) (fun _ hk => trivial), by (with_reducible repeat (first | apply Kd.R_alloc | apply Kd.R_drewN | apply Kd.R_drew)); exact Kd.R_mono (Kd.R_far (p := ⟨gb119, 4, none⟩) (Kd.R_far (p := ⟨gb119, 3, none⟩) (Kd.R_far (p := ⟨gb119, 2, none⟩) (Kd.R_far (p := ⟨gb119, 1, none⟩) (Kd.R_far (p := ⟨gb119, 0, none⟩) (Kd.R_types HO125.out BK119.out (by decide)) (fun _ hk => hk.2) (.slice Ao42 t120.length co42)) (fun _ hk => hk.2) (.slice Ao46 t123.length co46)) (fun _ hk => hk.2) (.slice Ao47 t126.length co47)) (fun _ hk => hk.2) (.int .i64 t129)) (fun _ hk => hk.2) (.int .i64 t130)) (fun _ hk => hk.1), by (with_reducible repeat (first | apply Kd.R_alloc | apply Kd.R_drewN | apply Kd.R_drew)); exact Kd.R_mono (Kd.R_far (p := ⟨gb119, 4, none⟩) (Kd.R_far (p := ⟨gb119, 3, none⟩) (Kd.R_far (p := ⟨gb119, 2, none⟩) (Kd.R_far (p := ⟨gb119, 1, none⟩) (Kd.R_far (p := ⟨gb119, 0, none⟩) (Kd.R_types HO128.out BK119.out (by decide)) (fun _ hk => hk.2) (.slice Ao42 t120.length co42)) (fun _ hk => hk.2) (.slice Ao46 t123.length co46)) (fun _ hk => hk.2) (.slice Ao47 t126.length co47)) (fun _ hk => hk.2) (.int .i64 t129)) (fun _ hk => hk.2) (.int .i64 t130)) (fun _ hk => hk.1), be w⟩
 subst c7
 rw [if_pos rfl] at H
 by_cases c8 : 0 ≤ a1_1
 rotate_left
 ·
  rw [if_neg c8] at H
  exact absurd H (by simp)
 rw [if_pos c8] at H
 have c8b0 : decide (0 ≤ a1_1) = true := decide_eq_true c8
 clear c8
 by_cases c9 : a1_1 < (t120.length : Int)
 rotate_left
 ·
  rw [if_neg c9] at H
  exact absurd H (by simp)
 rw [if_pos c9] at H
 have c9b0 : decide (a1_1 < (t120.length : Int)) = true := decide_eq_true c9
 clear c9
 obtain ⟨y134, hy134⟩ : ∃ y_ : List (S93), y_ = (t120.set (a1_1 : Int).toNat (⟨false, (rd_T93 t120 a1_1).f1⟩ : S93)) := ⟨_, rfl⟩
 replace H : (some (y134, t123, t126, t129, t130)) = some (r1, r2, r3, r4, r5) := by first | (rw [hy134]; with_reducible exact H) | (have H2_ := (Option.bind_some _ _).symm.trans H; rw [hy134]; with_reducible exact H2_) | (have H2_ := (Option.bind_some _ _).symm.trans H; with_reducible exact H2_) | with_reducible exact H | (rw [hy134]; exact H) | exact H
 have Ny134 := As.mk hy134
 clear hy134
 simp only [Option.some.injEq, Prod.mk.injEq] at H
 obtain ⟨rfl, rfl, rfl, rfl, rfl⟩ := H
 go_enter Try.func22, Try.ntmps22
 try go_wp2_with (first | ((with_reducible refine gate_dst (N := 2) rfl ?_); refine box_event ?hg (N := 2) ?hd (cs := #[.slice A0_0 l0_0.length c0_0, .slice A0_1 l0_1.length c0_1, .slice A0_2 l0_2.length c0_2, .int .i64 a0_3, .int .i64 a0_4]) (t := 34) ?hr ?_; (case hd => rfl); (case hg => rfl); (case hr => first | (go_simp; done) | (go_simp; rfl)); intro gb117 hg w11 hbox hb; have BK117 := As.mk (hbox); have GW117 := As.mk (gs w hg); have GE117 := As.mk (gs w hg); replace HB := As.mk (below_step (be w) hb); clear hb hbox hg) | ((with_reducible refine gate_dst (N := 3) rfl ?_); refine box_event ?hg (N := 3) ?hd (cs := #[.int .i64 a1_0, .int .i64 a1_1]) (t := 37) ?hr ?_; (case hd => rfl); (case hg => rfl); (case hr => first | (go_simp; done) | (go_simp; rfl)); intro gb118 hg w12 hbox hb; have BK118 := As.mk (hbox); have GW118 := As.mk (gs w hg); have GE118 := As.mk (gs w hg); replace HB := As.mk (below_step (be w) hb); have NB117_118 := As.mk (nl hg (bx BK117.out)); have NB118_117 := As.mk (ng hg (bx BK117.out)); replace BK117 := As.mk (blk_below (bx BK117.out) hb); clear hb hbox hg) | ((with_reducible refine gate_dst (N := 4) rfl ?_); refine box_event ?hg (N := 4) ?hd (cs := #[.slice none 0 0, .slice none 0 0, .slice none 0 0, .int .i64 0, .int .i64 0]) (t := 34) ?hr ?_; (case hd => rfl); (case hg => rfl); (case hr => first | (go_simp; done) | (go_simp; rfl)); intro gb119 hg w13 hbox hb; have BK119 := As.mk (hbox); have GW119 := As.mk (gs w hg); have GE119 := As.mk (gs w hg); replace HB := As.mk (below_step (be w) hb); have NB117_119 := As.mk (nl hg (bx BK117.out)); have NB119_117 := As.mk (ng hg (bx BK117.out)); replace BK117 := As.mk (blk_below (bx BK117.out) hb); have NB118_119 := As.mk (nl hg (bx BK118.out)); have NB119_118 := As.mk (ng hg (bx BK118.out)); replace BK118 := As.mk (blk_below (bx BK118.out) hb); clear hb hbox hg; have hnb14 := NB117_118.out; have hnc14 := NB118_117.out; have hnb15 := NB117_119.out; have hnc15 := NB119_117.out; obtain ⟨hcz16_0, hcz16_1, hcz16_2, hcz16_3, hcz16_4, hfz16_0, hfz16_1, hfz16_2, hfz16_3, hfz16_4⟩ := cl5 BK117.out) | ((with_reducible refine gate_callee (f := 42) rfl ?_); refine goesL_ (some 7) rfl rfl Try.func42 (by kernel_rfl) rfl #[.agg #[.slice A0_0 l0_0.length c0_0, .slice A0_1 l0_1.length c0_1, .slice A0_2 l0_2.length c0_2, .int .i64 a0_3, .int .i64 a0_4]] rfl (by (try simp only [lm]); first | done | rfl | (simp only [List.length_drop, List.length_take]; rfl)) ?_; (with_reducible refine (impl_copyMemory.calls _ _ l0_0 _ _ l0_1 _ _ l0_2 a0_3 a0_4 t120 t123 t126 t129 t130 _ ?side1 ?side2 ?side3 ?side4 ?side5 ?side6 A3.out).mono ?_); (case side1 => exact Kd.C_below HR0_0.out (be w)); (case side2 => exact HC0_0.out); (case side3 => exact Kd.C_below HR0_1.out (be w)); (case side4 => exact HC0_1.out); (case side5 => exact Kd.C_below HR0_2.out (be w)); (case side6 => exact HC0_2.out); rintro e w17 ⟨v121, v124, v127, rfl, ho0, ho1, ho2, hb⟩; refine ⟨_, rfl, ?_⟩; have HO122 := As.mk (Kd.R_lower ho0 (below_size (be w))); have HO125 := As.mk (Kd.R_lower ho1 (below_size (be w))); have HO128 := As.mk (Kd.R_lower ho2 (below_size (be w))); replace BK118 := As.mk (blk_below (bx BK118.out) hb); replace BK119 := As.mk (blk_below (bx BK119.out) hb); replace HB := As.mk (below_step (be w) hb); (try clear hb); (try clear hb2); (try clear hk); (try clear hi); (try clear ho0); (try clear ho1); (try clear ho2)) | ((with_reducible refine gate_dst (N := 5) rfl ?_); refine box_event ?hg (N := 5) ?hd (cs := #[.slice none 0 0, .slice none 0 0, .slice none 0 0, .int .i64 0, .int .i64 0]) (t := 34) ?hr ?_; (case hd => rfl); (case hg => rfl); (case hr => first | (go_simp; done) | (go_simp; rfl)); intro gb131 hg w18 hbox hb; replace HO122 := As.mk (Kd.R_below (by (with_reducible repeat (first | apply Kd.R_alloc | apply Kd.R_drewN | apply Kd.R_drew)); exact HO122.out) hb); replace HO125 := As.mk (Kd.R_below (by (with_reducible repeat (first | apply Kd.R_alloc | apply Kd.R_drewN | apply Kd.R_drew)); exact HO125.out) hb); replace HO128 := As.mk (Kd.R_below (by (with_reducible repeat (first | apply Kd.R_alloc | apply Kd.R_drewN | apply Kd.R_drew)); exact HO128.out) hb); have BK131 := As.mk (hbox); have GW131 := As.mk (gs w hg); have GE131 := As.mk (gs w hg); replace HB := As.mk (below_step (be w) hb); have NB118_131 := As.mk (nl hg (bx BK118.out)); have NB131_118 := As.mk (ng hg (bx BK118.out)); replace BK118 := As.mk (blk_below (bx BK118.out) hb); have NB119_131 := As.mk (nl hg (bx BK119.out)); have NB131_119 := As.mk (ng hg (bx BK119.out)); replace BK119 := As.mk (blk_below (bx BK119.out) hb); clear hb hbox hg; obtain ⟨Ao19, co19, eo19⟩ := Kd.R_slice HO122.out; subst eo19; have hnb20 := NB131_118.out; have hnc20 := NB118_131.out; have hnb21 := NB131_119.out; have hnc21 := NB119_131.out; obtain ⟨hcz22_0, hcz22_1, hcz22_2, hcz22_3, hcz22_4, hfz22_0, hfz22_1, hfz22_2, hfz22_3, hfz22_4⟩ := cl5 BK131.out; obtain ⟨Ao23, co23, eo23⟩ := Kd.R_slice HO125.out; subst eo23; obtain ⟨Ao24, co24, eo24⟩ := Kd.R_slice HO128.out; subst eo24; have hnb25 := NB118_119.out; have hnc25 := NB119_118.out; obtain ⟨hcz26_0, hcz26_1, hfz26_0, hfz26_1⟩ := cl2 BK118.out) | (go_at_call 47; go_in) | ((with_reducible refine gate_dst (N := 3) rfl ?_); refine box_event ?hg (N := 3) ?hd (cs := #[.int .i64 a1_0, .int .i64 a1_1]) (t := 37) ?hr ?_; (case hd => rfl); (case hg => rfl); (case hr => first | (go_simp; done) | (go_simp; rfl)); intro gb132 hg w27 hbox hb; replace HO122 := As.mk (Kd.R_below (by (with_reducible repeat (first | apply Kd.R_alloc | apply Kd.R_drewN | apply Kd.R_drew)); exact (Kd.R_mono (Kd.R_far (p := ⟨gb131, 4, none⟩) (Kd.R_far (p := ⟨gb131, 3, none⟩) (Kd.R_far (p := ⟨gb131, 2, none⟩) (Kd.R_far (p := ⟨gb131, 1, none⟩) (Kd.R_far (p := ⟨gb131, 0, none⟩) (Kd.R_types HO122.out BK131.out (by decide)) (fun _ hk => hk.2) (.slice Ao19 t120.length co19)) (fun _ hk => hk.2) (.slice Ao23 t123.length co23)) (fun _ hk => hk.2) (.slice Ao24 t126.length co24)) (fun _ hk => hk.2) (.int .i64 t129)) (fun _ hk => hk.2) (.int .i64 t130)) (fun _ h_ => h_.1))) hb); replace HO125 := As.mk (Kd.R_below (by (with_reducible repeat (first | apply Kd.R_alloc | apply Kd.R_drewN | apply Kd.R_drew)); exact (Kd.R_mono (Kd.R_far (p := ⟨gb131, 4, none⟩) (Kd.R_far (p := ⟨gb131, 3, none⟩) (Kd.R_far (p := ⟨gb131, 2, none⟩) (Kd.R_far (p := ⟨gb131, 1, none⟩) (Kd.R_far (p := ⟨gb131, 0, none⟩) (Kd.R_types HO125.out BK131.out (by decide)) (fun _ hk => hk.2) (.slice Ao19 t120.length co19)) (fun _ hk => hk.2) (.slice Ao23 t123.length co23)) (fun _ hk => hk.2) (.slice Ao24 t126.length co24)) (fun _ hk => hk.2) (.int .i64 t129)) (fun _ hk => hk.2) (.int .i64 t130)) (fun _ h_ => h_.1))) hb); replace HO128 := As.mk (Kd.R_below (by (with_reducible repeat (first | apply Kd.R_alloc | apply Kd.R_drewN | apply Kd.R_drew)); exact (Kd.R_mono (Kd.R_far (p := ⟨gb131, 4, none⟩) (Kd.R_far (p := ⟨gb131, 3, none⟩) (Kd.R_far (p := ⟨gb131, 2, none⟩) (Kd.R_far (p := ⟨gb131, 1, none⟩) (Kd.R_far (p := ⟨gb131, 0, none⟩) (Kd.R_types HO128.out BK131.out (by decide)) (fun _ hk => hk.2) (.slice Ao19 t120.length co19)) (fun _ hk => hk.2) (.slice Ao23 t123.length co23)) (fun _ hk => hk.2) (.slice Ao24 t126.length co24)) (fun _ hk => hk.2) (.int .i64 t129)) (fun _ hk => hk.2) (.int .i64 t130)) (fun _ h_ => h_.1))) hb); have BK132 := As.mk (hbox); have GW132 := As.mk (gs w hg); have GE132 := As.mk (gs w hg); replace HB := As.mk (below_step (be w) hb); have NB118_132 := As.mk ((by rw [hg]; exact Nat.ne_of_lt (blk_lt (g := gb118) (o := .cells #[.int .i64 a1_0, .int .i64 a1_1] 37 (0, 0)) (by refine pl ?_; refine blk_far ?_ NB118_131.out _; refine pl ?_; refine blk_far ?_ NB118_131.out _; refine pl ?_; refine blk_far ?_ NB118_131.out _; refine pl ?_; refine blk_far ?_ NB118_131.out _; refine pl ?_; refine blk_far ?_ NB118_131.out _; exact bx BK118.out)) : gb118 ≠ gb132)); have NB132_118 := As.mk ((by rw [hg]; exact Nat.ne_of_gt (blk_lt (g := gb118) (o := .cells #[.int .i64 a1_0, .int .i64 a1_1] 37 (0, 0)) (by refine pl ?_; refine blk_far ?_ NB118_131.out _; refine pl ?_; refine blk_far ?_ NB118_131.out _; refine pl ?_; refine blk_far ?_ NB118_131.out _; refine pl ?_; refine blk_far ?_ NB118_131.out _; refine pl ?_; refine blk_far ?_ NB118_131.out _; exact bx BK118.out)) : gb132 ≠ gb118)); replace BK118 := As.mk (blk_below (g := gb118) (o := .cells #[.int .i64 a1_0, .int .i64 a1_1] 37 (0, 0)) (by refine pl ?_; refine blk_far ?_ NB118_131.out _; refine pl ?_; refine blk_far ?_ NB118_131.out _; refine pl ?_; refine blk_far ?_ NB118_131.out _; refine pl ?_; refine blk_far ?_ NB118_131.out _; refine pl ?_; refine blk_far ?_ NB118_131.out _; exact bx BK118.out) hb); have NB119_132 := As.mk ((by rw [hg]; exact Nat.ne_of_lt (blk_lt (g := gb119) (o := .cells #[.slice none 0 0, .slice none 0 0, .slice none 0 0, .int .i64 0, .int .i64 0] 34 (0, 0)) (by refine pl ?_; refine blk_far ?_ NB119_131.out _; refine pl ?_; refine blk_far ?_ NB119_131.out _; refine pl ?_; refine blk_far ?_ NB119_131.out _; refine pl ?_; refine blk_far ?_ NB119_131.out _; refine pl ?_; refine blk_far ?_ NB119_131.out _; exact bx BK119.out)) : gb119 ≠ gb132)); have NB132_119 := As.mk ((by rw [hg]; exact Nat.ne_of_gt (blk_lt (g := gb119) (o := .cells #[.slice none 0 0, .slice none 0 0, .slice none 0 0, .int .i64 0, .int .i64 0] 34 (0, 0)) (by refine pl ?_; refine blk_far ?_ NB119_131.out _; refine pl ?_; refine blk_far ?_ NB119_131.out _; refine pl ?_; refine blk_far ?_ NB119_131.out _; refine pl ?_; refine blk_far ?_ NB119_131.out _; refine pl ?_; refine blk_far ?_ NB119_131.out _; exact bx BK119.out)) : gb132 ≠ gb119)); replace BK119 := As.mk (blk_below (g := gb119) (o := .cells #[.slice none 0 0, .slice none 0 0, .slice none 0 0, .int .i64 0, .int .i64 0] 34 (0, 0)) (by refine pl ?_; refine blk_far ?_ NB119_131.out _; refine pl ?_; refine blk_far ?_ NB119_131.out _; refine pl ?_; refine blk_far ?_ NB119_131.out _; refine pl ?_; refine blk_far ?_ NB119_131.out _; refine pl ?_; refine blk_far ?_ NB119_131.out _; exact bx BK119.out) hb); have NB131_132 := As.mk ((by rw [hg]; exact Nat.ne_of_lt (blk_lt (g := gb131) (o := .cells #[.slice Ao19 t120.length co19, .slice Ao23 t123.length co23, .slice Ao24 t126.length co24, .int .i64 t129, .int .i64 t130] 34 (0, 0)) (by refine pl ?_; refine blk_put (cs := #[.slice Ao19 t120.length co19, .slice Ao23 t123.length co23, .slice Ao24 t126.length co24, .int .i64 t129, .int .i64 0]) ?_ 4 _ rfl; refine pl ?_; refine blk_put (cs := #[.slice Ao19 t120.length co19, .slice Ao23 t123.length co23, .slice Ao24 t126.length co24, .int .i64 0, .int .i64 0]) ?_ 3 _ rfl; refine pl ?_; refine blk_put (cs := #[.slice Ao19 t120.length co19, .slice Ao23 t123.length co23, .slice none 0 0, .int .i64 0, .int .i64 0]) ?_ 2 _ rfl; refine pl ?_; refine blk_put (cs := #[.slice Ao19 t120.length co19, .slice none 0 0, .slice none 0 0, .int .i64 0, .int .i64 0]) ?_ 1 _ rfl; refine pl ?_; refine blk_put (cs := #[.slice none 0 0, .slice none 0 0, .slice none 0 0, .int .i64 0, .int .i64 0]) ?_ 0 _ rfl; exact bx BK131.out)) : gb131 ≠ gb132)); have NB132_131 := As.mk ((by rw [hg]; exact Nat.ne_of_gt (blk_lt (g := gb131) (o := .cells #[.slice Ao19 t120.length co19, .slice Ao23 t123.length co23, .slice Ao24 t126.length co24, .int .i64 t129, .int .i64 t130] 34 (0, 0)) (by refine pl ?_; refine blk_put (cs := #[.slice Ao19 t120.length co19, .slice Ao23 t123.length co23, .slice Ao24 t126.length co24, .int .i64 t129, .int .i64 0]) ?_ 4 _ rfl; refine pl ?_; refine blk_put (cs := #[.slice Ao19 t120.length co19, .slice Ao23 t123.length co23, .slice Ao24 t126.length co24, .int .i64 0, .int .i64 0]) ?_ 3 _ rfl; refine pl ?_; refine blk_put (cs := #[.slice Ao19 t120.length co19, .slice Ao23 t123.length co23, .slice none 0 0, .int .i64 0, .int .i64 0]) ?_ 2 _ rfl; refine pl ?_; refine blk_put (cs := #[.slice Ao19 t120.length co19, .slice none 0 0, .slice none 0 0, .int .i64 0, .int .i64 0]) ?_ 1 _ rfl; refine pl ?_; refine blk_put (cs := #[.slice none 0 0, .slice none 0 0, .slice none 0 0, .int .i64 0, .int .i64 0]) ?_ 0 _ rfl; exact bx BK131.out)) : gb132 ≠ gb131)); replace BK131 := As.mk (blk_below (g := gb131) (o := .cells #[.slice Ao19 t120.length co19, .slice Ao23 t123.length co23, .slice Ao24 t126.length co24, .int .i64 t129, .int .i64 t130] 34 (0, 0)) (by refine pl ?_; refine blk_put (cs := #[.slice Ao19 t120.length co19, .slice Ao23 t123.length co23, .slice Ao24 t126.length co24, .int .i64 t129, .int .i64 0]) ?_ 4 _ rfl; refine pl ?_; refine blk_put (cs := #[.slice Ao19 t120.length co19, .slice Ao23 t123.length co23, .slice Ao24 t126.length co24, .int .i64 0, .int .i64 0]) ?_ 3 _ rfl; refine pl ?_; refine blk_put (cs := #[.slice Ao19 t120.length co19, .slice Ao23 t123.length co23, .slice none 0 0, .int .i64 0, .int .i64 0]) ?_ 2 _ rfl; refine pl ?_; refine blk_put (cs := #[.slice Ao19 t120.length co19, .slice none 0 0, .slice none 0 0, .int .i64 0, .int .i64 0]) ?_ 1 _ rfl; refine pl ?_; refine blk_put (cs := #[.slice none 0 0, .slice none 0 0, .slice none 0 0, .int .i64 0, .int .i64 0]) ?_ 0 _ rfl; exact bx BK131.out) hb); clear hb hbox hg))
 replace HO122 := As.mk (Kd.R_drew HO122.out)
 replace HO125 := As.mk (Kd.R_drew HO125.out)
 replace HO128 := As.mk (Kd.R_drew HO128.out)
 replace BK119 := As.mk (blk_drew BK119.out)
 replace BK131 := As.mk (blk_drew BK131.out)
 replace BK132 := As.mk (blk_drew BK132.out)
 replace HB := As.mk (below_drew1 HB.out)
 refine start_ (n := 21) (S := fun w' => w'.cell? ⟨gb131, 0, none⟩ = some (.slice Ao19 t120.length co19) ∧ w'.cell? ⟨gb131, 1, none⟩ = some (.slice Ao23 t123.length co23) ∧ w'.cell? ⟨gb131, 2, none⟩ = some (.slice Ao24 t126.length co24) ∧ w'.cell? ⟨gb131, 3, none⟩ = some (.int .i64 t129) ∧ w'.cell? ⟨gb131, 4, none⟩ = some (.int .i64 t130) ∧ w'.cell? ⟨gb132, 0, none⟩ = some (.int .i64 a1_0) ∧ w'.cell? ⟨gb132, 1, none⟩ = some (.int .i64 a1_1)) (ds := []) #[O, O, O, O, O, O, O, O, O, O, O, O, O, O, O, O, O, O, O, O, O] (by kernel_rfl) rfl rfl ⟨(blk_cell BK131.out 0).trans rfl, (blk_cell BK131.out 1).trans rfl, (blk_cell BK131.out 2).trans rfl, (blk_cell BK131.out 3).trans rfl, (blk_cell BK131.out 4).trans rfl, (blk_cell BK132.out 0).trans rfl, (blk_cell BK132.out 1).trans rfl⟩ (fun hHeld => ?_)
 generalize w27.drew = w28 at HO122 HO125 HO128 BK119 BK131 BK132 HB hHeld ⊢
 refine pure_ (i := 0) (N := some 4) (v := ?_) (a' := ?_) #[I, O, O, O, O, O, O, O, O, O, O, O, O, O, O, O, O, O, O, O, O] rfl rfl (by kernel_rfl) (fun _ _ _ h => h) (Or.inl ⟨by rfl, ?_⟩) ?_ ?_
 rotate_left
 ·
  intro w'
  go_simp
  with_reducible rfl
 rotate_left
 ·
  simp only [pk, i64_w, i32_w]
  rfl
 refine pure_ (i := 1) (N := some 5) (v := ?_) (a' := ?_) #[I, I, O, O, O, O, O, O, O, O, O, O, O, O, O, O, O, O, O, O, O] rfl rfl (by kernel_rfl) (fun _ _ _ h => h) (Or.inl ⟨by rfl, ?_⟩) ?_ ?_
 rotate_left
 ·
  intro w'
  go_simp
  with_reducible rfl
 rotate_left
 ·
  simp only [pk, i64_w, i32_w]
  rfl
 refine pure_ (i := 2) (N := some 6) (v := ?_) (a' := ?_) #[I, I, I, O, O, O, O, O, O, O, O, O, O, O, O, O, O, O, O, O, O] rfl rfl (by kernel_rfl) (fun _ _ _ h => h) (Or.inl ⟨by rfl, ?_⟩) ?_ ?_
 rotate_left
 ·
  intro w'
  go_simp
  with_reducible rfl
 rotate_left
 ·
  simp only [pk, i64_w, i32_w]
  rfl
 refine take_ (i := 3) (N := some 7) (v := ?_) (a' := ?_) #[I, I, I, I, O, O, O, O, O, O, O, O, O, O, O, O, O, O, O, O, O] rfl rfl (by kernel_rfl) (fun _ _ _ h => h) (Or.inl ⟨by rfl, ?_⟩) hHeld ?_ ?_
 rotate_left
 ·
  rintro w' ⟨s0, s1, s2, s3, s4, s5, s6⟩
  go_simp
  with_reducible rfl
 rotate_left
 ·
  simp only [pk, i64_w, i32_w]
  rfl
 refine pure_ (i := 4) (N := some 8) (v := ?_) (a' := ?_) #[I, I, I, I, I, O, O, O, O, O, O, O, O, O, O, O, O, O, O, O, O] rfl rfl (by kernel_rfl) (fun _ _ _ h => h) (Or.inl ⟨by rfl, ?_⟩) ?_ ?_
 rotate_left
 ·
  intro w'
  go_simp
  with_reducible rfl
 rotate_left
 ·
  simp only [pk, i64_w, i32_w]
  rfl
 refine pure_ (i := 5) (N := some 9) (v := ?_) (a' := ?_) #[I, I, I, I, I, I, O, O, O, O, O, O, O, O, O, O, O, O, O, O, O] rfl rfl (by kernel_rfl) (fun _ _ _ h => h) (Or.inl ⟨by rfl, ?_⟩) ?_ ?_
 rotate_left
 ·
  intro w'
  go_simp
  with_reducible rfl
 rotate_left
 ·
  simp only [pk, i64_w, i32_w]
  rfl
 refine pure_ (i := 6) (N := some 10) (v := ?_) (a' := ?_) #[I, I, I, I, I, I, I, O, O, O, O, O, O, O, O, O, O, O, O, O, O] rfl rfl (by kernel_rfl) (fun _ _ _ h => h) (Or.inl ⟨by rfl, ?_⟩) ?_ ?_
 rotate_left
 ·
  intro w'
  go_simp
  with_reducible rfl
 rotate_left
 ·
  simp only [pk, i64_w, i32_w]
  rfl
 refine take_ (i := 7) (N := some 11) (v := ?_) (a' := ?_) #[I, I, I, I, I, I, I, I, O, O, O, O, O, O, O, O, O, O, O, O, O] rfl rfl (by kernel_rfl) (fun _ _ _ h => h) (Or.inl ⟨by rfl, ?_⟩) hHeld ?_ ?_
 rotate_left
 ·
  rintro w' ⟨s0, s1, s2, s3, s4, s5, s6⟩
  go_simp
  with_reducible rfl
 rotate_left
 ·
  simp only [pk, i64_w, i32_w]
  rfl
 refine pure_ (i := 8) (N := some 12) (v := ?_) (a' := ?_) #[I, I, I, I, I, I, I, I, I, O, O, O, O, O, O, O, O, O, O, O, O] rfl rfl (by kernel_rfl) (fun _ _ _ h => h) (Or.inl ⟨by rfl, ?_⟩) ?_ ?_
 rotate_left
 ·
  intro w'
  go_simp
  with_reducible rfl
 rotate_left
 ·
  simp only [pk, i64_w, i32_w]
  rfl
 refine pure_ (i := 9) (N := some 13) (v := ?_) (a' := ?_) #[I, I, I, I, I, I, I, I, I, I, O, O, O, O, O, O, O, O, O, O, O] rfl rfl (by kernel_rfl) (fun _ _ _ h => h) (Or.inl ⟨by rfl, ?_⟩) ?_ ?_
 rotate_left
 ·
  intro w'
  go_simp
  with_reducible rfl
 rotate_left
 ·
  simp only [pk, i64_w, i32_w]
  rfl
 refine pure_ (i := 10) (N := some 14) (v := ?_) (a' := ?_) #[I, I, I, I, I, I, I, I, I, I, I, O, O, O, O, O, O, O, O, O, O] rfl rfl (by kernel_rfl) (fun _ _ _ h => h) (Or.inl ⟨by rfl, ?_⟩) ?_ ?_
 rotate_left
 ·
  intro w'
  go_simp
  with_reducible rfl
 rotate_left
 ·
  simp only [pk, i64_w, i32_w]
  rfl
 refine pure_ (i := 11) (N := some 15) (v := ?_) (a' := ?_) #[I, I, I, I, I, I, I, I, I, I, I, I, O, O, O, O, O, O, O, O, O] rfl rfl (by kernel_rfl) (fun _ _ _ h => h) (Or.inl ⟨by rfl, ?_⟩) ?_ ?_
 rotate_left
 ·
  intro w'
  go_simp
  with_reducible rfl
 rotate_left
 ·
  simp only [pk, i64_w, i32_w]
  rfl
 refine pure_ (i := 13) (N := some 17) (v := ?_) (a' := ?_) #[I, I, I, I, I, I, I, I, I, I, I, I, O, I, O, O, O, O, O, O, O] rfl rfl (by kernel_rfl) (fun _ _ _ h => h) (Or.inl ⟨by rfl, ?_⟩) ?_ ?_
 rotate_left
 ·
  intro w'
  go_simp
  with_reducible rfl
 rotate_left
 ·
  simp only [pk, i64_w, i32_w]
  rfl
 refine pure_ (i := 14) (N := some 18) (v := ?_) (a' := ?_) #[I, I, I, I, I, I, I, I, I, I, I, I, O, I, I, O, O, O, O, O, O] rfl rfl (by kernel_rfl) (fun _ _ _ h => h) (Or.inl ⟨by rfl, ?_⟩) ?_ ?_
 rotate_left
 ·
  intro w'
  go_simp
  with_reducible rfl
 rotate_left
 ·
  simp only [pk, i64_w, i32_w]
  rfl
 refine pure_ (i := 15) (N := some 19) (v := ?_) (a' := ?_) #[I, I, I, I, I, I, I, I, I, I, I, I, O, I, I, I, O, O, O, O, O] rfl rfl (by kernel_rfl) (fun _ _ _ h => h) (Or.inl ⟨by rfl, ?_⟩) ?_ ?_
 rotate_left
 ·
  intro w'
  go_simp
  with_reducible rfl
 rotate_left
 ·
  simp only [pk, i64_w, i32_w]
  rfl
 refine take_ (i := 12) (N := some 16) (v := ?_) (a' := ?_) #[I, I, I, I, I, I, I, I, I, I, I, I, I, I, I, I, O, O, O, O, O] rfl rfl (by kernel_rfl) (fun _ _ _ h => h) (Or.inl ⟨by rfl, ?_⟩) hHeld ?_ ?_
 rotate_left
 ·
  rintro w' ⟨s0, s1, s2, s3, s4, s5, s6⟩
  go_simp
  with_reducible rfl
 rotate_left
 ·
  simp only [pk, i64_w, i32_w]
  rfl
 refine take_ (i := 16) (N := some 20) (v := ?_) (a' := ?_) #[I, I, I, I, I, I, I, I, I, I, I, I, I, I, I, I, I, O, O, O, O] rfl rfl (by kernel_rfl) (fun _ _ _ h => h) (Or.inl ⟨by rfl, ?_⟩) hHeld ?_ ?_
 rotate_left
 ·
  rintro w' ⟨s0, s1, s2, s3, s4, s5, s6⟩
  go_simp
  with_reducible rfl
 rotate_left
 ·
  simp only [pk, i64_w, i32_w]
  rfl
 refine pure_ (i := 17) (N := some 21) (v := ?_) (a' := ?_) #[I, I, I, I, I, I, I, I, I, I, I, I, I, I, I, I, I, I, O, O, O] rfl rfl (by kernel_rfl) (fun _ _ _ h => h) (Or.inl ⟨by rfl, ?_⟩) ?_ ?_
 rotate_left
 ·
  intro w'
  go_simp
  with_reducible rfl
 rotate_left
 ·
  simp only [pk, i64_w, i32_w]
  rfl
 refine pure_ (i := 18) (N := some 22) (v := ?_) (a' := ?_) #[I, I, I, I, I, I, I, I, I, I, I, I, I, I, I, I, I, I, I, O, O] rfl rfl (by kernel_rfl) (fun _ _ _ h => h) (Or.inl ⟨by rfl, ?_⟩) ?_ ?_
 rotate_left
 ·
  intro w'
  go_simp
  with_reducible rfl
 rotate_left
 ·
  simp only [pk, i64_w, i32_w]
  rfl
 refine one_ (i := 19) (N := some 23) #[I, I, I, I, I, I, I, I, I, I, I, I, I, I, I, I, I, I, I, I, O] rfl rfl (by kernel_rfl) (by decide) (fun K hK => ?_)
 refine goes_ Try.func71 (by kernel_rfl) rfl #[.int .i64 a1_1, .int .i64 0, .int .i64 (wrap64 ((t120.length : Int) - 1))] (by rfl) rfl rfl (by (try simp only [lm]); first | done | rfl | (simp only [List.length_drop, List.length_take]; rfl)) ?_
 with_reducible refine (impl_in.calls a1_1 0 (wrap64 ((t120.length : Int) - 1)) true _ A6.out).mono ?_
 rintro e w' ⟨rfl, ⟨nd, rfl⟩⟩
 refine ⟨_, rfl, ?_⟩
 refine hK.out _ _ ⟨(blk_cell BK131.out 0).trans rfl, (blk_cell BK131.out 1).trans rfl, (blk_cell BK131.out 2).trans rfl, (blk_cell BK131.out 3).trans rfl, (blk_cell BK131.out 4).trans rfl, (blk_cell BK132.out 0).trans rfl, (blk_cell BK132.out 1).trans rfl⟩ (fun hHeld => ?_)
 clear hK K
 refine norm_ (a' := ?_) ?_ ?_
 rotate_left
 ·
  show Act.put _ (some 23) _ = _
  simp only [pk, i64_w, i32_w]
  rfl
 refine pure_ (i := 20) (N := some 24) (v := ?_) (a' := ?_) #[I, I, I, I, I, I, I, I, I, I, I, I, I, I, I, I, I, I, I, I, I] rfl rfl (by kernel_rfl) (fun _ _ _ h => h) (Or.inl ⟨by rfl, ?_⟩) ?_ ?_
 rotate_left
 ·
  intro w'
  go_simp
  with_reducible rfl
 rotate_left
 ·
  simp only [pk, i64_w, i32_w]
  rfl
 refine done_ (by kernel_rfl) ?_
 try go_wp2
 (try (rw [drewN_self w28]; generalize hq_ : World.drewN w28 _ = w28; have n0_ : As (Kd.R k93 93 w28 w.heap.size (fun _ => True) (.slice Ao19 t120.length co19) t120) := ⟨by rw [← hq_]; exact (by (with_reducible repeat (first | apply Kd.R_alloc | apply Kd.R_drewN | apply Kd.R_drew)); exact HO122.out)⟩; have n1_ : As (Kd.R (Kd.int .i64) 3 w28 w.heap.size (fun k_ => some k_ ≠ (.slice Ao24 t126.length co24 : Value).ownBlock) (.slice Ao23 t123.length co23) t123) := ⟨by rw [← hq_]; exact (by (with_reducible repeat (first | apply Kd.R_alloc | apply Kd.R_drewN | apply Kd.R_drew)); exact HO125.out)⟩; have n2_ : As (Kd.R (Kd.int .i64) 3 w28 w.heap.size (fun k_ => some k_ ≠ (.slice Ao23 t123.length co23 : Value).ownBlock) (.slice Ao24 t126.length co24) t126) := ⟨by rw [← hq_]; exact (by (with_reducible repeat (first | apply Kd.R_alloc | apply Kd.R_drewN | apply Kd.R_drew)); exact HO128.out)⟩; have n3_ : As (w28.heap[gb119]? = some (.cells #[.slice none 0 0, .slice none 0 0, .slice none 0 0, .int .i64 0, .int .i64 0] 34 (0, 0))) := ⟨by rw [← hq_]; exact (bx BK119.out)⟩; have n4_ : As (w28.heap[gb131]? = some (.cells #[.slice Ao19 t120.length co19, .slice Ao23 t123.length co23, .slice Ao24 t126.length co24, .int .i64 t129, .int .i64 t130] 34 (0, 0))) := ⟨by rw [← hq_]; exact (bx BK131.out)⟩; have n5_ : As (w28.heap[gb132]? = some (.cells #[.int .i64 a1_0, .int .i64 a1_1] 37 (0, 0))) := ⟨by rw [← hq_]; exact (bx BK132.out)⟩; have n6_ : As (Below w.heap.size w w28) := ⟨by rw [← hq_]; exact (be w)⟩; clear HO122 HO125 HO128 BK119 BK131 BK132 HB hq_; have HO122 := n0_; have HO125 := n1_; have HO128 := n2_; have BK119 := n3_; have BK131 := n4_; have BK132 := n5_; have HB := n6_; clear n0_ n1_ n2_ n3_ n4_ n5_ n6_))
 replace HO122 := As.mk (Kd.R_drew HO122.out)
 replace HO125 := As.mk (Kd.R_drew HO125.out)
 replace HO128 := As.mk (Kd.R_drew HO128.out)
 replace BK119 := As.mk (blk_drew BK119.out)
 replace BK131 := As.mk (blk_drew BK131.out)
 replace BK132 := As.mk (blk_drew BK132.out)
 replace HB := As.mk (below_drew1 HB.out)
 have p10 : 0 ≤ (a1_1 : Int) := of_decide_eq_true (by first | (with_reducible assumption) | assumption)
 have q10 : (a1_1 : Int) < ((t120.length : Int) : Int) := of_decide_eq_true (by first | (with_reducible assumption) | assumption)
 obtain ⟨go10, co10, eo10, gb10, gl10, cl10, HG10⟩ := Kd.R_form HO122.out (by omega)
 (first | cases eo10 | (injection eo10 with ea_ en_ ec_; (first | subst ea_ | (injection ea_ with ea_; subst ea_)); subst ec_; clear en_))
 have GB10 := As.mk gb10
 have GG10 := As.mk HG10
 clear gb10 gl10 HG10
 obtain ⟨ce10, hcl10, hM10, hcc10, hfr10⟩ := Kd.R_elem HO122.out z93 (a1_1 : Int) p10 q10
 obtain rfl := k93_openM hM10
 have hx10_0 : World.cell? _ ⟨go10, (a1_1 : Int).toNat * 2, none⟩ = some (.bool ((rd_T93 t120 a1_1).f0)) := hcc10 0 _ rfl
 have hx10_1 : World.cell? _ ⟨go10, (a1_1 : Int).toNat * 2 + 1, none⟩ = some (.int .i64 ((rd_T93 t120 a1_1).f1)) := hcc10 1 _ rfl
 have hf10_0 : World.frozen? _ ⟨go10, (a1_1 : Int).toNat * 2, none⟩ = false := hfr10 0
 have hf10_1 : World.frozen? _ ⟨go10, (a1_1 : Int).toNat * 2 + 1, none⟩ = false := hfr10 1
 clear hcl10 hcc10 hfr10 hM10
 replace p10 := eq_true p10
 replace q10 := eq_true q10
 obtain ⟨ce30, hcl30, hM30, hcc30, hfr30⟩ := Kd.R_elem HO122.out z93 (a1_1 : Int) (of_decide_eq_true (by first | (with_reducible assumption) | assumption)) (by have h_ : (a1_1 : Int) < ((t120.length : Int) : Int) := of_decide_eq_true (by first | (with_reducible assumption) | assumption); first | exact h_ | (have e_ := (Kd.R_reads' HO122.out).1; omega) | simpa using h_)
 obtain rfl := k93_openM hM30
 have HP30 := (Kd.R_seg HO122.out (a1_1 : Int) (of_decide_eq_true (by first | (with_reducible assumption) | assumption)) (by have h_ : (a1_1 : Int) < ((t120.length : Int) : Int) := of_decide_eq_true (by first | (with_reducible assumption) | assumption); first | exact h_ | (have e_ := (Kd.R_reads' HO122.out).1; omega) | simpa using h_) (seg := [.bool false]) (j := 0) hcl30 hcc30 (show 1 ≤ 2 from by decide) (x' := (⟨false, (rd_T93 t120 a1_1).f1⟩ : S93)) (k93_mkM _ _ _ (⟨false, (rd_T93 t120 a1_1).f1⟩ : S93) ) (fun _ hk => hk)).1
 rw [← Ny134.out] at HP30
 have HQ30 := As.mk HP30
 clear hcl30 hcc30 hfr30 hM30 HP30
 refine start_ (n := 9) (S := fun w' => w'.cell? ⟨gb131, 0, none⟩ = some (.slice (some ⟨go10, 0, none⟩) t120.length co19) ∧ w'.cell? ⟨gb131, 1, none⟩ = some (.slice Ao23 t123.length co23) ∧ w'.cell? ⟨gb131, 2, none⟩ = some (.slice Ao24 t126.length co24) ∧ w'.cell? ⟨gb131, 3, none⟩ = some (.int .i64 t129) ∧ w'.cell? ⟨gb131, 4, none⟩ = some (.int .i64 t130) ∧ w'.cell? ⟨gb132, 0, none⟩ = some (.int .i64 a1_0) ∧ w'.cell? ⟨gb132, 1, none⟩ = some (.int .i64 a1_1)) (ds := [8]) #[O, O, O, O, O, O, O, O, O] (by kernel_rfl) rfl rfl ⟨(blk_cell BK131.out 0).trans rfl, (blk_cell BK131.out 1).trans rfl, (blk_cell BK131.out 2).trans rfl, (blk_cell BK131.out 3).trans rfl, (blk_cell BK131.out 4).trans rfl, (blk_cell BK132.out 0).trans rfl, (blk_cell BK132.out 1).trans rfl⟩ (fun hHeld => ?_)
 generalize w28.drew = w29 at HO122 HO125 HO128 BK119 BK131 BK132 HB GG10 HQ30 hf10_0 hf10_1 hx10_0 hx10_1 hHeld ⊢
 refine pure_ (i := 0) (N := some 25) (v := ?_) (a' := ?_) #[I, O, O, O, O, O, O, O, O] rfl rfl (by kernel_rfl) (fun _ _ _ h => h) (Or.inl ⟨by rfl, ?_⟩) ?_ ?_
 rotate_left
 ·
  intro w'
  go_simp
  with_reducible rfl
 rotate_left
 ·
  simp only [pk, i64_w, i32_w]
  rfl
 refine pure_ (i := 1) (N := some 26) (v := ?_) (a' := ?_) #[I, I, O, O, O, O, O, O, O] rfl rfl (by kernel_rfl) (fun _ _ _ h => h) (Or.inl ⟨by rfl, ?_⟩) ?_ ?_
 rotate_left
 ·
  intro w'
  go_simp
  with_reducible rfl
 rotate_left
 ·
  simp only [pk, i64_w, i32_w]
  rfl
 refine pure_ (i := 2) (N := some 27) (v := ?_) (a' := ?_) #[I, I, I, O, O, O, O, O, O] rfl rfl (by kernel_rfl) (fun _ _ _ h => h) (Or.inl ⟨by rfl, ?_⟩) ?_ ?_
 rotate_left
 ·
  intro w'
  go_simp
  with_reducible rfl
 rotate_left
 ·
  simp only [pk, i64_w, i32_w]
  rfl
 refine pure_ (i := 4) (N := some 29) (v := ?_) (a' := ?_) #[I, I, I, O, I, O, O, O, O] rfl rfl (by kernel_rfl) (fun _ _ _ h => h) (Or.inl ⟨by rfl, ?_⟩) ?_ ?_
 rotate_left
 ·
  intro w'
  go_simp
  with_reducible rfl
 rotate_left
 ·
  simp only [pk, i64_w, i32_w]
  rfl
 refine take_ (i := 3) (N := some 28) (v := ?_) (a' := ?_) #[I, I, I, I, I, O, O, O, O] rfl rfl (by kernel_rfl) (fun _ _ _ h => h) (Or.inl ⟨by rfl, ?_⟩) hHeld ?_ ?_
 rotate_left
 ·
  rintro w' ⟨s0, s1, s2, s3, s4, s5, s6⟩
  go_simp
  with_reducible rfl
 rotate_left
 ·
  simp only [pk, i64_w, i32_w]
  rfl
 refine take_ (i := 5) (N := some 30) (v := ?_) (a' := ?_) #[I, I, I, I, I, I, O, O, O] rfl rfl (by kernel_rfl) (fun _ _ _ h => h) (Or.inl ⟨by rfl, ?_⟩) hHeld ?_ ?_
 rotate_left
 ·
  rintro w' ⟨s0, s1, s2, s3, s4, s5, s6⟩
  go_simp
  with_reducible rfl
 rotate_left
 ·
  simp only [pk, i64_w, i32_w]
  rfl
 refine pure_ (i := 6) (N := some 31) (v := ?_) (a' := ?_) #[I, I, I, I, I, I, I, O, O] rfl rfl (by kernel_rfl) (fun _ _ _ h => h) (Or.inl ⟨by rfl, ?_⟩) ?_ ?_
 rotate_left
 ·
  intro w'
  go_simp
  with_reducible rfl
 rotate_left
 ·
  simp only [pk, i64_w, i32_w]
  rfl
 refine pure_ (i := 7) (N := some 32) (v := ?_) (a' := ?_) #[I, I, I, I, I, I, I, I, O] rfl rfl (by kernel_rfl) (fun _ _ _ h => h) (Or.inl ⟨by rfl, ?_⟩) ?_ ?_
 rotate_left
 ·
  intro w'
  go_simp
  with_reducible rfl
 rotate_left
 ·
  simp only [pk, i64_w, i32_w]
  rfl
 refine last_ (i := 8) (N := none) #[I, I, I, I, I, I, I, I, I] rfl rfl (by kernel_rfl) (by decide) (fun K hK => ?_)
 refine skip_ (w1 := ?_) (by rfl) rfl ?_ ?_
 rotate_left
 ·
  go_simp
  rfl
 refine hK.out _ _ ?_
 clear hK K
 refine done_ (by kernel_rfl) ?_
 have n0_ : As (Kd.R k93 93 (w29.setCell ⟨go10, (a1_1 : Int).toNat * 2, none⟩ (.bool false)) w.heap.size (fun _ => True) (.slice (some ⟨go10, 0, none⟩) t120.length co19) y134) := ⟨by (with_reducible repeat (first | apply Kd.R_alloc | apply Kd.R_drewN | apply Kd.R_drew)); exact HQ30.out⟩
 have n1_ : As (Kd.R (Kd.int .i64) 3 (w29.setCell ⟨go10, (a1_1 : Int).toNat * 2, none⟩ (.bool false)) w.heap.size (fun k_ => some k_ ≠ (.slice Ao24 t126.length co24 : Value).ownBlock) (.slice Ao23 t123.length co23) t123) := ⟨by (with_reducible repeat (first | apply Kd.R_alloc | apply Kd.R_drewN | apply Kd.R_drew)); exact Kd.R_mono (Kd.R_far (p := ⟨go10, (a1_1 : Int).toNat * 2, none⟩) (Kd.R_types HO125.out GG10.out (by decide)) (fun _ hk => hk.2) (.bool false)) (fun _ hk => hk.1)⟩
 have n2_ : As (Kd.R (Kd.int .i64) 3 (w29.setCell ⟨go10, (a1_1 : Int).toNat * 2, none⟩ (.bool false)) w.heap.size (fun k_ => some k_ ≠ (.slice Ao23 t123.length co23 : Value).ownBlock) (.slice Ao24 t126.length co24) t126) := ⟨by (with_reducible repeat (first | apply Kd.R_alloc | apply Kd.R_drewN | apply Kd.R_drew)); exact Kd.R_mono (Kd.R_far (p := ⟨go10, (a1_1 : Int).toNat * 2, none⟩) (Kd.R_types HO128.out GG10.out (by decide)) (fun _ hk => hk.2) (.bool false)) (fun _ hk => hk.1)⟩
 have n3_ : As ((w29.setCell ⟨go10, (a1_1 : Int).toNat * 2, none⟩ (.bool false)).heap[gb119]? = some (.cells #[.slice none 0 0, .slice none 0 0, .slice none 0 0, .int .i64 0, .int .i64 0] 34 (0, 0))) := ⟨by refine pl ?_; refine blk_far ?_ (by have h_ := Kd.R_ne HO122.out BK119.out (by decide); intro e_; exact h_ (by rw [e_]; rfl)) _; exact bx BK119.out⟩
 have n4_ : As ((w29.setCell ⟨go10, (a1_1 : Int).toNat * 2, none⟩ (.bool false)).heap[gb131]? = some (.cells #[.slice (some ⟨go10, 0, none⟩) t120.length co19, .slice Ao23 t123.length co23, .slice Ao24 t126.length co24, .int .i64 t129, .int .i64 t130] 34 (0, 0))) := ⟨by refine pl ?_; refine blk_far ?_ (by have h_ := Kd.R_ne HO122.out BK131.out (by decide); intro e_; exact h_ (by rw [e_]; rfl)) _; exact bx BK131.out⟩
 have n5_ : As ((w29.setCell ⟨go10, (a1_1 : Int).toNat * 2, none⟩ (.bool false)).heap[gb132]? = some (.cells #[.int .i64 a1_0, .int .i64 a1_1] 37 (0, 0))) := ⟨by refine pl ?_; refine blk_far ?_ (by have h_ := Kd.R_ne HO122.out BK132.out (by decide); intro e_; exact h_ (by rw [e_]; rfl)) _; exact bx BK132.out⟩
 have n6_ : As (Below w.heap.size w (w29.setCell ⟨go10, (a1_1 : Int).toNat * 2, none⟩ (.bool false))) := ⟨be w⟩
 (try clear HO122)
 (try clear HO125)
 (try clear HO128)
 (try clear BK119)
 (try clear BK131)
 (try clear BK132)
 (try clear HB)
 generalize (w29.setCell ⟨go10, (a1_1 : Int).toNat * 2, none⟩ (.bool false)) = w31 at n0_ n1_ n2_ n3_ n4_ n5_ n6_ ⊢
 have HO122 := n0_
 have HO125 := n1_
 have HO128 := n2_
 have BK119 := n3_
 have BK131 := n4_
 have BK132 := n5_
 have HB := n6_
 clear n0_ n1_ n2_ n3_ n4_ n5_ n6_
 obtain ⟨hcz32_0, hcz32_1, hcz32_2, hcz32_3, hcz32_4, hfz32_0, hfz32_1, hfz32_2, hfz32_3, hfz32_4⟩ := cl5 BK131.out
 obtain ⟨hcz33_0, hcz33_1, hcz33_2, hcz33_3, hcz33_4, hfz33_0, hfz33_1, hfz33_2, hfz33_3, hfz33_4⟩ := cl5 BK119.out
 try go_wp2_with (first | (with_reducible show bodyPost Try.prog Try.f47 _ _ _ _; (try simp only [Exit.inBlock, Exit.then]); refine bodyPost_end (results_none rfl _ _ _) rfl ?_; simp only []; go_at_K; (try ((first | refine lay_top (by go_cell_look) ?_ | refine lay_top1 (by go_cell_look) ?_ | refine lay_top2 (by go_cell_look) ?_); intro hlay_))))
 refine bodyPost_ret (results_cell_row rfl _ _ gb119 34 #[.slice (some ⟨go10, 0, none⟩) t120.length co19, .slice Ao23 t123.length co23, .slice Ao24 t126.length co24, .int .i64 t129, .int .i64 t130] (0, 0) _ rfl (by refine pl ?_; refine blk_put (cs := #[.slice (some ⟨go10, 0, none⟩) t120.length co19, .slice Ao23 t123.length co23, .slice Ao24 t126.length co24, .int .i64 t129, .int .i64 0]) ?_ 4 _ rfl; refine pl ?_; refine blk_put (cs := #[.slice (some ⟨go10, 0, none⟩) t120.length co19, .slice Ao23 t123.length co23, .slice Ao24 t126.length co24, .int .i64 0, .int .i64 0]) ?_ 3 _ rfl; refine pl ?_; refine blk_put (cs := #[.slice (some ⟨go10, 0, none⟩) t120.length co19, .slice Ao23 t123.length co23, .slice none 0 0, .int .i64 0, .int .i64 0]) ?_ 2 _ rfl; refine pl ?_; refine blk_put (cs := #[.slice (some ⟨go10, 0, none⟩) t120.length co19, .slice none 0 0, .slice none 0 0, .int .i64 0, .int .i64 0]) ?_ 1 _ rfl; refine pl ?_; refine blk_put (cs := #[.slice none 0 0, .slice none 0 0, .slice none 0 0, .int .i64 0, .int .i64 0]) ?_ 0 _ rfl; exact bx BK119.out) Try.underlying34 rfl (by kernel_rfl)) rfl ?_
 exact ⟨_, _, _, by first | rfl | (simp [errW_none, errW_some] <;> rfl) | (simp [*, errW_none, errW_some] <;> rfl), by (with_reducible repeat (first | apply Kd.R_alloc | apply Kd.R_drewN | apply Kd.R_drew)); exact Kd.R_mono (Kd.R_far (p := ⟨gb119, 4, none⟩) (Kd.R_far (p := ⟨gb119, 3, none⟩) (Kd.R_far (p := ⟨gb119, 2, none⟩) (Kd.R_far (p := ⟨gb119, 1, none⟩) (Kd.R_far (p := ⟨gb119, 0, none⟩) (Kd.R_types HO122.out BK119.out (by decide)) (fun _ hk => hk.2) (.slice (some ⟨go10, 0, none⟩) t120.length co19)) (fun _ hk => hk.2) (.slice Ao23 t123.length co23)) (fun _ hk => hk.2) (.slice Ao24 t126.length co24)) (fun _ hk => hk.2) (.int .i64 t129)) (fun _ hk => hk.2) (.int .i64 t130)) (fun _ hk => trivial), by (with_reducible repeat (first | apply Kd.R_alloc | apply Kd.R_drewN | apply Kd.R_drew)); exact Kd.R_mono (Kd.R_far (p := ⟨gb119, 4, none⟩) (Kd.R_far (p := ⟨gb119, 3, none⟩) (Kd.R_far (p := ⟨gb119, 2, none⟩) (Kd.R_far (p := ⟨gb119, 1, none⟩) (Kd.R_far (p := ⟨gb119, 0, none⟩) (Kd.R_types HO125.out BK119.out (by decide)) (fun _ hk => hk.2) (.slice (some ⟨go10, 0, none⟩) t120.length co19)) (fun _ hk => hk.2) (.slice Ao23 t123.length co23)) (fun _ hk => hk.2) (.slice Ao24 t126.length co24)) (fun _ hk => hk.2) (.int .i64 t129)) (fun _ hk => hk.2) (.int .i64 t130)) (fun _ hk => hk.1), by (with_reducible repeat (first | apply Kd.R_alloc | apply Kd.R_drewN | apply Kd.R_drew)); exact Kd.R_mono (Kd.R_far (p := ⟨gb119, 4, none⟩) (Kd.R_far (p := ⟨gb119, 3, none⟩) (Kd.R_far (p := ⟨gb119, 2, none⟩) (Kd.R_far (p := ⟨gb119, 1, none⟩) (Kd.R_far (p := ⟨gb119, 0, none⟩) (Kd.R_types HO128.out BK119.out (by decide)) (fun _ hk => hk.2) (.slice (some ⟨go10, 0, none⟩) t120.length co19)) (fun _ hk => hk.2) (.slice Ao23 t123.length co23)) (fun _ hk => hk.2) (.slice Ao24 t126.length co24)) (fun _ hk => hk.2) (.int .i64 t129)) (fun _ hk => hk.2) (.int .i64 t130)) (fun _ hk => hk.1), be w⟩
end Go.Proofs.Ytnlhjblfemgggaa.PFnExactFreed
