/- Written by a program of this session (a turned copy of the kit's print): a contract for each Go function. No condition beside those in each statement. -/
import Derived.Test.YtnlhjblfemgggaaPFnExactWrittenx0
import Derived.Test.YtnlhjblfemgggaaPFnExactWrittenx1
import Derived.Test.YtnlhjblfemgggaaPFnExactWrittenx2
import Derived.Test.YtnlhjblfemgggaaPFnExactWrittenx3
namespace Go.Proofs.Ytnlhjblfemgggaa.PFnExactWritten
open Go.RowKit Go.Proofs.YtnlhjblfemgggaaW.PrintWords Go.Proofs.YtnlhjblfemgggaaW.PrintLast Go.Proofs.YtnlhjblfemgggaaW.PrintMore
attribute [local go_sem] max2_int min2_int max_two min_two max_three min_three max_four min_four   -- for this text's walks alone
set_option linter.unusedVariables false
set_option linter.unusedSimpArgs false

/-! ### spec_Written: function 32 -/
def spec_Written.f (l0_0 : List (S93)) (l0_1 : List Int) (l0_2 : List Int) (a0_3 : Int) (a0_4 : Int) (a1_0 : Int) (a1_1 : Int) (a2 : Int) : Option ((List (S93)) × List Int × List Int × Int × Int) := (spec_l09Copy.f l0_0 l0_1 l0_2 a0_3 a0_4).bind fun bt241 => (if bt241.2.2.2.2 = 0 then ((spec_l09Live.f bt241.1 bt241.2.1 bt241.2.2.1 bt241.2.2.2.1 bt241.2.2.2.2 a1_0 a1_1).bind fun t254 => (if t254 = true then (if 0 ≤ a1_1 then (if a1_1 < (bt241.1.length : Int) then (some ((bt241.1.set (a1_1 : Int).toNat (⟨(rd_T93 bt241.1 a1_1).f0, a2⟩ : S93)), bt241.2.1, bt241.2.2.1, bt241.2.2.2.1, bt241.2.2.2.2)) else (none)) else (none)) else (some (bt241.1, bt241.2.1, bt241.2.2.1, bt241.2.2.2.1, 5)))) else (some (bt241.1, bt241.2.1, bt241.2.2.1, bt241.2.2.2.1, bt241.2.2.2.2)))
set_option maxHeartbeats 8000000 in
set_option maxRecDepth 100000 in
theorem spec_Written.calls (A0_0 : Option Addr) (c0_0 : Nat) (l0_0 : List (S93)) (A0_1 : Option Addr) (c0_1 : Nat) (l0_1 : List Int) (A0_2 : Option Addr) (c0_2 : Nat) (l0_2 : List Int) (a0_3 : Int) (a0_4 : Int) (a1_0 : Int) (a1_1 : Int) (a2 : Int) (r1 : List (S93)) (r2 : List Int) (r3 : List Int) (r4 : Int) (r5 : Int) (w : World) (hr0_0 : Kd.C k93 w A0_0 l0_0.length l0_0) (hc0_0 : l0_0.length ≤ c0_0) (hr0_1 : Kd.C (Kd.int .i64) w A0_1 l0_1.length l0_1) (hc0_1 : l0_1.length ≤ c0_1) (hr0_2 : Kd.C (Kd.int .i64) w A0_2 l0_2.length l0_2) (hc0_2 : l0_2.length ≤ c0_2) (h : spec_Written.f l0_0 l0_1 l0_2 a0_3 a0_4 a1_0 a1_1 a2 = some (r1, r2, r3, r4, r5)) :
  Calls Try.prog 32 #[.agg #[.slice A0_0 l0_0.length c0_0, .slice A0_1 l0_1.length c0_1, .slice A0_2 l0_2.length c0_2, .int .i64 a0_3, .int .i64 a0_4], .agg #[.int .i64 a1_0, .int .i64 a1_1], .int .i64 a2] w fun e w' => ∃ v0_ v1_ v2_ : Value, e = .returned (.agg #[v0_, v1_, v2_, .int .i64 r4, .int .i64 r5]) ∧ Kd.R k93 93 w' w.heap.size (fun _ => True) v0_ r1 ∧ Kd.R (Kd.int .i64) 3 w' w.heap.size (fun k_ => some k_ ≠ (v2_ : Value).ownBlock) v1_ r2 ∧ Kd.R (Kd.int .i64) 3 w' w.heap.size (fun k_ => some k_ ≠ (v1_ : Value).ownBlock) v2_ r3 ∧ Below w.heap.size w w' := by
 have hu34 := Try.underlying34
 have hu37 := Try.underlying37
 have HR0_0 := As.mk hr0_0
 have HC0_0 := As.mk hc0_0
 clear hr0_0 hc0_0
 have HR0_1 := As.mk hr0_1
 have HC0_1 := As.mk hc0_1
 clear hr0_1 hc0_1
 have HR0_2 := As.mk hr0_2
 have HC0_2 := As.mk hc0_2
 clear hr0_2 hc0_2
 have HB := As.mk (Below.refl w.heap.size w)
 have H : ((spec_l09Copy.f l0_0 l0_1 l0_2 a0_3 a0_4).bind fun bt241 => (if bt241.2.2.2.2 = 0 then ((spec_l09Live.f bt241.1 bt241.2.1 bt241.2.2.1 bt241.2.2.2.1 bt241.2.2.2.2 a1_0 a1_1).bind fun t254 => (if t254 = true then (if 0 ≤ a1_1 then (if a1_1 < (bt241.1.length : Int) then (some ((bt241.1.set (a1_1 : Int).toNat (⟨(rd_T93 bt241.1 a1_1).f0, a2⟩ : S93)), bt241.2.1, bt241.2.2.1, bt241.2.2.2.1, bt241.2.2.2.2)) else (none)) else (none)) else (some (bt241.1, bt241.2.1, bt241.2.2.1, bt241.2.2.2.1, 5)))) else (some (bt241.1, bt241.2.1, bt241.2.2.1, bt241.2.2.2.1, bt241.2.2.2.2)))) = some (r1, r2, r3, r4, r5) := h
 clear h
 obtain ⟨⟨t241, t244, t247, t250, t251⟩, A40, H⟩ := Option.bind_eq_some_iff.mp H
 try dsimp only at H
 have A4 := As.mk A40
 clear A40
 by_cases c5 : t251 = 0
 rotate_left
 ·
  rw [if_neg c5] at H
  have c5b0 : (t251 == 0) = false := beq_eq_false_iff_ne.mpr c5
  have c5b1 : (t251 != 0) = true := bne_iff_ne.mpr c5
  simp only [Option.some.injEq, Prod.mk.injEq] at H
  obtain ⟨rfl, rfl, rfl, rfl, rfl⟩ := H
  go_enter Try.func32, Try.ntmps32
  go_wp2_with (first | ((with_reducible refine gate_dst (N := 3) rfl ?_); refine box_event ?hg (N := 3) ?hd (cs := #[.slice A0_0 l0_0.length c0_0, .slice A0_1 l0_1.length c0_1, .slice A0_2 l0_2.length c0_2, .int .i64 a0_3, .int .i64 a0_4]) (t := 34) ?hr ?_; (case hd => rfl); (case hg => rfl); (case hr => first | (go_simp; done) | (go_simp; rfl)); intro gb238 hg w60 hbox hb; have BK238 := As.mk (hbox); have GW238 := As.mk (gs w hg); have GE238 := As.mk (gs w hg); replace HB := As.mk (below_step (be w) hb); clear hb hbox hg) | ((with_reducible refine gate_dst (N := 4) rfl ?_); refine box_event ?hg (N := 4) ?hd (cs := #[.int .i64 a1_0, .int .i64 a1_1]) (t := 37) ?hr ?_; (case hd => rfl); (case hg => rfl); (case hr => first | (go_simp; done) | (go_simp; rfl)); intro gb239 hg w61 hbox hb; have BK239 := As.mk (hbox); have GW239 := As.mk (gs w hg); have GE239 := As.mk (gs w hg); replace HB := As.mk (below_step (be w) hb); have NB238_239 := As.mk (nl hg (bx BK238.out)); have NB239_238 := As.mk (ng hg (bx BK238.out)); replace BK238 := As.mk (blk_below (bx BK238.out) hb); clear hb hbox hg) | ((with_reducible refine gate_dst (N := 6) rfl ?_); refine box_event ?hg (N := 6) ?hd (cs := #[.slice none 0 0, .slice none 0 0, .slice none 0 0, .int .i64 0, .int .i64 0]) (t := 34) ?hr ?_; (case hd => rfl); (case hg => rfl); (case hr => first | (go_simp; done) | (go_simp; rfl)); intro gb240 hg w62 hbox hb; have BK240 := As.mk (hbox); have GW240 := As.mk (gs w hg); have GE240 := As.mk (gs w hg); replace HB := As.mk (below_step (be w) hb); have NB238_240 := As.mk (nl hg (bx BK238.out)); have NB240_238 := As.mk (ng hg (bx BK238.out)); replace BK238 := As.mk (blk_below (bx BK238.out) hb); have NB239_240 := As.mk (nl hg (bx BK239.out)); have NB240_239 := As.mk (ng hg (bx BK239.out)); replace BK239 := As.mk (blk_below (bx BK239.out) hb); clear hb hbox hg; have hnb63 := NB238_239.out; have hnc63 := NB239_238.out; have hnb64 := NB238_240.out; have hnc64 := NB240_238.out; obtain ⟨hcz65_0, hcz65_1, hcz65_2, hcz65_3, hcz65_4, hfz65_0, hfz65_1, hfz65_2, hfz65_3, hfz65_4⟩ := cl5 BK238.out) | ((with_reducible refine gate_callee (f := 50) rfl ?_); refine goesL_ (some 9) rfl rfl Try.func50 (by kernel_rfl) rfl #[.agg #[.slice A0_0 l0_0.length c0_0, .slice A0_1 l0_1.length c0_1, .slice A0_2 l0_2.length c0_2, .int .i64 a0_3, .int .i64 a0_4]] rfl (by (try simp only [lm]); first | done | rfl | (simp only [List.length_drop, List.length_take]; rfl)) ?_; (with_reducible refine (spec_l09Copy.calls _ _ l0_0 _ _ l0_1 _ _ l0_2 a0_3 a0_4 t241 t244 t247 t250 t251 _ ?side1 ?side2 ?side3 ?side4 ?side5 ?side6 A4.out).mono ?_); (case side1 => exact Kd.C_below HR0_0.out (be w)); (case side2 => exact HC0_0.out); (case side3 => exact Kd.C_below HR0_1.out (be w)); (case side4 => exact HC0_1.out); (case side5 => exact Kd.C_below HR0_2.out (be w)); (case side6 => exact HC0_2.out); rintro e w66 ⟨v242, v245, v248, rfl, ho0, ho1, ho2, hb⟩; refine ⟨_, rfl, ?_⟩; have HO243 := As.mk (Kd.R_lower ho0 (below_size (be w))); have HO246 := As.mk (Kd.R_lower ho1 (below_size (be w))); have HO249 := As.mk (Kd.R_lower ho2 (below_size (be w))); replace BK239 := As.mk (blk_below (bx BK239.out) hb); replace BK240 := As.mk (blk_below (bx BK240.out) hb); replace HB := As.mk (below_step (be w) hb); (try clear hb); (try clear hb2); (try clear hk); (try clear hi); (try clear ho0); (try clear ho1); (try clear ho2)) | ((with_reducible refine gate_dst (N := 7) rfl ?_); refine box_event ?hg (N := 7) ?hd (cs := #[.slice none 0 0, .slice none 0 0, .slice none 0 0, .int .i64 0, .int .i64 0]) (t := 34) ?hr ?_; (case hd => rfl); (case hg => rfl); (case hr => first | (go_simp; done) | (go_simp; rfl)); intro gb252 hg w67 hbox hb; replace HO243 := As.mk (Kd.R_below (by (with_reducible repeat (first | apply Kd.R_alloc | apply Kd.R_drewN | apply Kd.R_drew)); exact HO243.out) hb); replace HO246 := As.mk (Kd.R_below (by (with_reducible repeat (first | apply Kd.R_alloc | apply Kd.R_drewN | apply Kd.R_drew)); exact HO246.out) hb); replace HO249 := As.mk (Kd.R_below (by (with_reducible repeat (first | apply Kd.R_alloc | apply Kd.R_drewN | apply Kd.R_drew)); exact HO249.out) hb); have BK252 := As.mk (hbox); have GW252 := As.mk (gs w hg); have GE252 := As.mk (gs w hg); replace HB := As.mk (below_step (be w) hb); have NB239_252 := As.mk (nl hg (bx BK239.out)); have NB252_239 := As.mk (ng hg (bx BK239.out)); replace BK239 := As.mk (blk_below (bx BK239.out) hb); have NB240_252 := As.mk (nl hg (bx BK240.out)); have NB252_240 := As.mk (ng hg (bx BK240.out)); replace BK240 := As.mk (blk_below (bx BK240.out) hb); clear hb hbox hg; obtain ⟨Ao68, co68, eo68⟩ := Kd.R_slice HO243.out; subst eo68; have hnb69 := NB252_239.out; have hnc69 := NB239_252.out; have hnb70 := NB252_240.out; have hnc70 := NB240_252.out; obtain ⟨hcz71_0, hcz71_1, hcz71_2, hcz71_3, hcz71_4, hfz71_0, hfz71_1, hfz71_2, hfz71_3, hfz71_4⟩ := cl5 BK252.out; obtain ⟨Ao72, co72, eo72⟩ := Kd.R_slice HO246.out; subst eo72; obtain ⟨Ao73, co73, eo73⟩ := Kd.R_slice HO249.out; subst eo73; have hnb74 := NB239_240.out; have hnc74 := NB240_239.out; obtain ⟨hcz75_0, hcz75_1, hfz75_0, hfz75_1⟩ := cl2 BK239.out) | (go_at_call 62; go_in) | ((with_reducible refine gate_dst (N := 4) rfl ?_); refine box_event ?hg (N := 4) ?hd (cs := #[.int .i64 a1_0, .int .i64 a1_1]) (t := 37) ?hr ?_; (case hd => rfl); (case hg => rfl); (case hr => first | (go_simp; done) | (go_simp; rfl)); intro gb253 hg w76 hbox hb; replace HO243 := As.mk (Kd.R_below (by (with_reducible repeat (first | apply Kd.R_alloc | apply Kd.R_drewN | apply Kd.R_drew)); exact (Kd.R_mono (Kd.R_far (p := ⟨gb252, 4, none⟩) (Kd.R_far (p := ⟨gb252, 3, none⟩) (Kd.R_far (p := ⟨gb252, 2, none⟩) (Kd.R_far (p := ⟨gb252, 1, none⟩) (Kd.R_far (p := ⟨gb252, 0, none⟩) (Kd.R_types HO243.out BK252.out (by decide)) (fun _ hk => hk.2) (.slice Ao68 t241.length co68)) (fun _ hk => hk.2) (.slice Ao72 t244.length co72)) (fun _ hk => hk.2) (.slice Ao73 t247.length co73)) (fun _ hk => hk.2) (.int .i64 t250)) (fun _ hk => hk.2) (.int .i64 t251)) (fun _ h_ => h_.1))) hb); replace HO246 := As.mk (Kd.R_below (by (with_reducible repeat (first | apply Kd.R_alloc | apply Kd.R_drewN | apply Kd.R_drew)); exact (Kd.R_mono (Kd.R_far (p := ⟨gb252, 4, none⟩) (Kd.R_far (p := ⟨gb252, 3, none⟩) (Kd.R_far (p := ⟨gb252, 2, none⟩) (Kd.R_far (p := ⟨gb252, 1, none⟩) (Kd.R_far (p := ⟨gb252, 0, none⟩) (Kd.R_types HO246.out BK252.out (by decide)) (fun _ hk => hk.2) (.slice Ao68 t241.length co68)) (fun _ hk => hk.2) (.slice Ao72 t244.length co72)) (fun _ hk => hk.2) (.slice Ao73 t247.length co73)) (fun _ hk => hk.2) (.int .i64 t250)) (fun _ hk => hk.2) (.int .i64 t251)) (fun _ h_ => h_.1))) hb); replace HO249 := As.mk (Kd.R_below (by (with_reducible repeat (first | apply Kd.R_alloc | apply Kd.R_drewN | apply Kd.R_drew)); exact (Kd.R_mono (Kd.R_far (p := ⟨gb252, 4, none⟩) (Kd.R_far (p := ⟨gb252, 3, none⟩) (Kd.R_far (p := ⟨gb252, 2, none⟩) (Kd.R_far (p := ⟨gb252, 1, none⟩) (Kd.R_far (p := ⟨gb252, 0, none⟩) (Kd.R_types HO249.out BK252.out (by decide)) (fun _ hk => hk.2) (.slice Ao68 t241.length co68)) (fun _ hk => hk.2) (.slice Ao72 t244.length co72)) (fun _ hk => hk.2) (.slice Ao73 t247.length co73)) (fun _ hk => hk.2) (.int .i64 t250)) (fun _ hk => hk.2) (.int .i64 t251)) (fun _ h_ => h_.1))) hb); have BK253 := As.mk (hbox); have GW253 := As.mk (gs w hg); have GE253 := As.mk (gs w hg); replace HB := As.mk (below_step (be w) hb); have NB239_253 := As.mk ((by rw [hg]; exact Nat.ne_of_lt (blk_lt (g := gb239) (o := .cells #[.int .i64 a1_0, .int .i64 a1_1] 37 (0, 0)) (by refine pl ?_; refine blk_far ?_ NB239_252.out _; refine pl ?_; refine blk_far ?_ NB239_252.out _; refine pl ?_; refine blk_far ?_ NB239_252.out _; refine pl ?_; refine blk_far ?_ NB239_252.out _; refine pl ?_; refine blk_far ?_ NB239_252.out _; exact bx BK239.out)) : gb239 ≠ gb253)); have NB253_239 := As.mk ((by rw [hg]; exact Nat.ne_of_gt (blk_lt (g := gb239) (o := .cells #[.int .i64 a1_0, .int .i64 a1_1] 37 (0, 0)) (by refine pl ?_; refine blk_far ?_ NB239_252.out _; refine pl ?_; refine blk_far ?_ NB239_252.out _; refine pl ?_; refine blk_far ?_ NB239_252.out _; refine pl ?_; refine blk_far ?_ NB239_252.out _; refine pl ?_; refine blk_far ?_ NB239_252.out _; exact bx BK239.out)) : gb253 ≠ gb239)); replace BK239 := As.mk (blk_below (g := gb239) (o := .cells #[.int .i64 a1_0, .int .i64 a1_1] 37 (0, 0)) (by refine pl ?_; refine blk_far ?_ NB239_252.out _; refine pl ?_; refine blk_far ?_ NB239_252.out _; refine pl ?_; refine blk_far ?_ NB239_252.out _; refine pl ?_; refine blk_far ?_ NB239_252.out _; refine pl ?_; refine blk_far ?_ NB239_252.out _; exact bx BK239.out) hb); have NB240_253 := As.mk ((by rw [hg]; exact Nat.ne_of_lt (blk_lt (g := gb240) (o := .cells #[.slice none 0 0, .slice none 0 0, .slice none 0 0, .int .i64 0, .int .i64 0] 34 (0, 0)) (by refine pl ?_; refine blk_far ?_ NB240_252.out _; refine pl ?_; refine blk_far ?_ NB240_252.out _; refine pl ?_; refine blk_far ?_ NB240_252.out _; refine pl ?_; refine blk_far ?_ NB240_252.out _; refine pl ?_; refine blk_far ?_ NB240_252.out _; exact bx BK240.out)) : gb240 ≠ gb253)); have NB253_240 := As.mk ((by rw [hg]; exact Nat.ne_of_gt (blk_lt (g := gb240) (o := .cells #[.slice none 0 0, .slice none 0 0, .slice none 0 0, .int .i64 0, .int .i64 0] 34 (0, 0)) (by refine pl ?_; refine blk_far ?_ NB240_252.out _; refine pl ?_; refine blk_far ?_ NB240_252.out _; refine pl ?_; refine blk_far ?_ NB240_252.out _; refine pl ?_; refine blk_far ?_ NB240_252.out _; refine pl ?_; refine blk_far ?_ NB240_252.out _; exact bx BK240.out)) : gb253 ≠ gb240)); replace BK240 := As.mk (blk_below (g := gb240) (o := .cells #[.slice none 0 0, .slice none 0 0, .slice none 0 0, .int .i64 0, .int .i64 0] 34 (0, 0)) (by refine pl ?_; refine blk_far ?_ NB240_252.out _; refine pl ?_; refine blk_far ?_ NB240_252.out _; refine pl ?_; refine blk_far ?_ NB240_252.out _; refine pl ?_; refine blk_far ?_ NB240_252.out _; refine pl ?_; refine blk_far ?_ NB240_252.out _; exact bx BK240.out) hb); have NB252_253 := As.mk ((by rw [hg]; exact Nat.ne_of_lt (blk_lt (g := gb252) (o := .cells #[.slice Ao68 t241.length co68, .slice Ao72 t244.length co72, .slice Ao73 t247.length co73, .int .i64 t250, .int .i64 t251] 34 (0, 0)) (by refine pl ?_; refine blk_put (cs := #[.slice Ao68 t241.length co68, .slice Ao72 t244.length co72, .slice Ao73 t247.length co73, .int .i64 t250, .int .i64 0]) ?_ 4 _ rfl; refine pl ?_; refine blk_put (cs := #[.slice Ao68 t241.length co68, .slice Ao72 t244.length co72, .slice Ao73 t247.length co73, .int .i64 0, .int .i64 0]) ?_ 3 _ rfl; refine pl ?_; refine blk_put (cs := #[.slice Ao68 t241.length co68, .slice Ao72 t244.length co72, .slice none 0 0, .int .i64 0, .int .i64 0]) ?_ 2 _ rfl; refine pl ?_; refine blk_put (cs := #[.slice Ao68 t241.length co68, .slice none 0 0, .slice none 0 0, .int .i64 0, .int .i64 0]) ?_ 1 _ rfl; refine pl ?_; refine blk_put (cs := #[.slice none 0 0, .slice none 0 0, .slice none 0 0, .int .i64 0, .int .i64 0]) ?_ 0 _ rfl; exact bx BK252.out)) : gb252 ≠ gb253)); have NB253_252 := As.mk ((by rw [hg]; exact Nat.ne_of_gt (blk_lt (g := gb252) (o := .cells #[.slice Ao68 t241.length co68, .slice Ao72 t244.length co72, .slice Ao73 t247.length co73, .int .i64 t250, .int .i64 t251] 34 (0, 0)) (by refine pl ?_; refine blk_put (cs := #[.slice Ao68 t241.length co68, .slice Ao72 t244.length co72, .slice Ao73 t247.length co73, .int .i64 t250, .int .i64 0]) ?_ 4 _ rfl; refine pl ?_; refine blk_put (cs := #[.slice Ao68 t241.length co68, .slice Ao72 t244.length co72, .slice Ao73 t247.length co73, .int .i64 0, .int .i64 0]) ?_ 3 _ rfl; refine pl ?_; refine blk_put (cs := #[.slice Ao68 t241.length co68, .slice Ao72 t244.length co72, .slice none 0 0, .int .i64 0, .int .i64 0]) ?_ 2 _ rfl; refine pl ?_; refine blk_put (cs := #[.slice Ao68 t241.length co68, .slice none 0 0, .slice none 0 0, .int .i64 0, .int .i64 0]) ?_ 1 _ rfl; refine pl ?_; refine blk_put (cs := #[.slice none 0 0, .slice none 0 0, .slice none 0 0, .int .i64 0, .int .i64 0]) ?_ 0 _ rfl; exact bx BK252.out)) : gb253 ≠ gb252)); replace BK252 := As.mk (blk_below (g := gb252) (o := .cells #[.slice Ao68 t241.length co68, .slice Ao72 t244.length co72, .slice Ao73 t247.length co73, .int .i64 t250, .int .i64 t251] 34 (0, 0)) (by refine pl ?_; refine blk_put (cs := #[.slice Ao68 t241.length co68, .slice Ao72 t244.length co72, .slice Ao73 t247.length co73, .int .i64 t250, .int .i64 0]) ?_ 4 _ rfl; refine pl ?_; refine blk_put (cs := #[.slice Ao68 t241.length co68, .slice Ao72 t244.length co72, .slice Ao73 t247.length co73, .int .i64 0, .int .i64 0]) ?_ 3 _ rfl; refine pl ?_; refine blk_put (cs := #[.slice Ao68 t241.length co68, .slice Ao72 t244.length co72, .slice none 0 0, .int .i64 0, .int .i64 0]) ?_ 2 _ rfl; refine pl ?_; refine blk_put (cs := #[.slice Ao68 t241.length co68, .slice none 0 0, .slice none 0 0, .int .i64 0, .int .i64 0]) ?_ 1 _ rfl; refine pl ?_; refine blk_put (cs := #[.slice none 0 0, .slice none 0 0, .slice none 0 0, .int .i64 0, .int .i64 0]) ?_ 0 _ rfl; exact bx BK252.out) hb); clear hb hbox hg; obtain ⟨hcz77_0, hcz77_1, hcz77_2, hcz77_3, hcz77_4, hfz77_0, hfz77_1, hfz77_2, hfz77_3, hfz77_4⟩ := cl5 BK252.out; obtain ⟨hcz78_0, hcz78_1, hcz78_2, hcz78_3, hcz78_4, hfz78_0, hfz78_1, hfz78_2, hfz78_3, hfz78_4⟩ := cl5 BK240.out) | (with_reducible show bodyPost Try.prog Try.f62 _ _ _ _; (try simp only [Exit.inBlock, Exit.then]); refine bodyPost_ret (results_none rfl _ _ _) rfl ?_; simp only []; go_at_K; (try ((first | refine lay_top (by go_cell_look) ?_ | refine lay_top1 (by go_cell_look) ?_ | refine lay_top2 (by go_cell_look) ?_); intro hlay_))))
  refine bodyPost_ret (results_cell_row rfl _ _ gb240 34 #[.slice Ao68 t241.length co68, .slice Ao72 t244.length co72, .slice Ao73 t247.length co73, .int .i64 t250, .int .i64 t251] (0, 0) _ rfl (by refine pl ?_; refine blk_put (cs := #[.slice Ao68 t241.length co68, .slice Ao72 t244.length co72, .slice Ao73 t247.length co73, .int .i64 t250, .int .i64 0]) ?_ 4 _ rfl; refine pl ?_; refine blk_put (cs := #[.slice Ao68 t241.length co68, .slice Ao72 t244.length co72, .slice Ao73 t247.length co73, .int .i64 0, .int .i64 0]) ?_ 3 _ rfl; refine pl ?_; refine blk_put (cs := #[.slice Ao68 t241.length co68, .slice Ao72 t244.length co72, .slice none 0 0, .int .i64 0, .int .i64 0]) ?_ 2 _ rfl; refine pl ?_; refine blk_put (cs := #[.slice Ao68 t241.length co68, .slice none 0 0, .slice none 0 0, .int .i64 0, .int .i64 0]) ?_ 1 _ rfl; refine pl ?_; refine blk_put (cs := #[.slice none 0 0, .slice none 0 0, .slice none 0 0, .int .i64 0, .int .i64 0]) ?_ 0 _ rfl; exact bx BK240.out) Try.underlying34 rfl (by kernel_rfl)) rfl ?_
  exact ⟨_, _, _, by first | rfl | (simp [errW_none, errW_some] <;> rfl) | (simp [*, errW_none, errW_some] <;> rfl), by (with_reducible repeat (first | apply Kd.R_alloc | apply Kd.R_drewN | apply Kd.R_drew)); exact Kd.R_mono (Kd.R_far (p := ⟨gb240, 4, none⟩) (Kd.R_far (p := ⟨gb240, 3, none⟩) (Kd.R_far (p := ⟨gb240, 2, none⟩) (Kd.R_far (p := ⟨gb240, 1, none⟩) (Kd.R_far (p := ⟨gb240, 0, none⟩) (Kd.R_types HO243.out BK240.out (by decide)) (fun _ hk => hk.2) (.slice Ao68 t241.length co68)) (fun _ hk => hk.2) (.slice Ao72 t244.length co72)) (fun _ hk => hk.2) (.slice Ao73 t247.length co73)) (fun _ hk => hk.2) (.int .i64 t250)) (fun _ hk => hk.2) (.int .i64 t251)) (fun _ hk => trivial), by (with_reducible repeat (first | apply Kd.R_alloc | apply Kd.R_drewN | apply Kd.R_drew)); exact Kd.R_mono (Kd.R_far (p := ⟨gb240, 4, none⟩) (Kd.R_far (p := ⟨gb240, 3, none⟩) (Kd.R_far (p := ⟨gb240, 2, none⟩) (Kd.R_far (p := ⟨gb240, 1, none⟩) (Kd.R_far (p := ⟨gb240, 0, none⟩) (Kd.R_types HO246.out BK240.out (by decide)) (fun _ hk => hk.2) (.slice Ao68 t241.length co68)) (fun _ hk => hk.2) (.slice Ao72 t244.length co72)) (fun _ hk => hk.2) (.slice Ao73 t247.length co73)) (fun _ hk => hk.2) (.int .i64 t250)) (fun _ hk => hk.2) (.int .i64 t251)) (fun _ hk => hk.1), by (with_reducible repeat (first | apply Kd.R_alloc | apply Kd.R_drewN | apply Kd.R_drew)); exact Kd.R_mono (Kd.R_far (p := ⟨gb240, 4, none⟩) (Kd.R_far (p := ⟨gb240, 3, none⟩) (Kd.R_far (p := ⟨gb240, 2, none⟩) (Kd.R_far (p := ⟨gb240, 1, none⟩) (Kd.R_far (p := ⟨gb240, 0, none⟩) (Kd.R_types HO249.out BK240.out (by decide)) (fun _ hk => hk.2) (.slice Ao68 t241.length co68)) (fun _ hk => hk.2) (.slice Ao72 t244.length co72)) (fun _ hk => hk.2) (.slice Ao73 t247.length co73)) (fun _ hk => hk.2) (.int .i64 t250)) (fun _ hk => hk.2) (.int .i64 t251)) (fun _ hk => hk.1), be w⟩

 rw [if_pos c5] at H
 have c5b0 : (t251 == 0) = true := beq_iff_eq.mpr c5
 have c5b1 : (t251 != 0) = false := bne_eq_false_iff_eq.mpr c5
 clear c5
 obtain ⟨t254, A60, H⟩ := Option.bind_eq_some_iff.mp H
 try dsimp only at H
 have A6 := As.mk A60
 clear A60
 by_cases c7 : t254 = true
 rotate_left
 ·
  replace c7 := Bool.eq_false_iff.mpr c7
  subst c7
  rw [if_neg (show ¬ (false = true) by decide)] at H
  simp only [Option.some.injEq, Prod.mk.injEq] at H
  obtain ⟨rfl, rfl, rfl, rfl, rfl⟩ := H
  go_enter Try.func32, Try.ntmps32
  try go_wp2_with (first | ((with_reducible refine gate_dst (N := 3) rfl ?_); refine box_event ?hg (N := 3) ?hd (cs := #[.slice A0_0 l0_0.length c0_0, .slice A0_1 l0_1.length c0_1, .slice A0_2 l0_2.length c0_2, .int .i64 a0_3, .int .i64 a0_4]) (t := 34) ?hr ?_; (case hd => rfl); (case hg => rfl); (case hr => first | (go_simp; done) | (go_simp; rfl)); intro gb238 hg w37 hbox hb; have BK238 := As.mk (hbox); have GW238 := As.mk (gs w hg); have GE238 := As.mk (gs w hg); replace HB := As.mk (below_step (be w) hb); clear hb hbox hg) | ((with_reducible refine gate_dst (N := 4) rfl ?_); refine box_event ?hg (N := 4) ?hd (cs := #[.int .i64 a1_0, .int .i64 a1_1]) (t := 37) ?hr ?_; (case hd => rfl); (case hg => rfl); (case hr => first | (go_simp; done) | (go_simp; rfl)); intro gb239 hg w38 hbox hb; have BK239 := As.mk (hbox); have GW239 := As.mk (gs w hg); have GE239 := As.mk (gs w hg); replace HB := As.mk (below_step (be w) hb); have NB238_239 := As.mk (nl hg (bx BK238.out)); have NB239_238 := As.mk (ng hg (bx BK238.out)); replace BK238 := As.mk (blk_below (bx BK238.out) hb); clear hb hbox hg) | ((with_reducible refine gate_dst (N := 6) rfl ?_); refine box_event ?hg (N := 6) ?hd (cs := #[.slice none 0 0, .slice none 0 0, .slice none 0 0, .int .i64 0, .int .i64 0]) (t := 34) ?hr ?_; (case hd => rfl); (case hg => rfl); (case hr => first | (go_simp; done) | (go_simp; rfl)); intro gb240 hg w39 hbox hb; have BK240 := As.mk (hbox); have GW240 := As.mk (gs w hg); have GE240 := As.mk (gs w hg); replace HB := As.mk (below_step (be w) hb); have NB238_240 := As.mk (nl hg (bx BK238.out)); have NB240_238 := As.mk (ng hg (bx BK238.out)); replace BK238 := As.mk (blk_below (bx BK238.out) hb); have NB239_240 := As.mk (nl hg (bx BK239.out)); have NB240_239 := As.mk (ng hg (bx BK239.out)); replace BK239 := As.mk (blk_below (bx BK239.out) hb); clear hb hbox hg; have hnb40 := NB238_239.out; have hnc40 := NB239_238.out; have hnb41 := NB238_240.out; have hnc41 := NB240_238.out; obtain ⟨hcz42_0, hcz42_1, hcz42_2, hcz42_3, hcz42_4, hfz42_0, hfz42_1, hfz42_2, hfz42_3, hfz42_4⟩ := cl5 BK238.out) | ((with_reducible refine gate_callee (f := 50) rfl ?_); refine goesL_ (some 9) rfl rfl Try.func50 (by kernel_rfl) rfl #[.agg #[.slice A0_0 l0_0.length c0_0, .slice A0_1 l0_1.length c0_1, .slice A0_2 l0_2.length c0_2, .int .i64 a0_3, .int .i64 a0_4]] rfl (by (try simp only [lm]); first | done | rfl | (simp only [List.length_drop, List.length_take]; rfl)) ?_; (with_reducible refine (spec_l09Copy.calls _ _ l0_0 _ _ l0_1 _ _ l0_2 a0_3 a0_4 t241 t244 t247 t250 t251 _ ?side1 ?side2 ?side3 ?side4 ?side5 ?side6 A4.out).mono ?_); (case side1 => exact Kd.C_below HR0_0.out (be w)); (case side2 => exact HC0_0.out); (case side3 => exact Kd.C_below HR0_1.out (be w)); (case side4 => exact HC0_1.out); (case side5 => exact Kd.C_below HR0_2.out (be w)); (case side6 => exact HC0_2.out); rintro e w43 ⟨v242, v245, v248, rfl, ho0, ho1, ho2, hb⟩; refine ⟨_, rfl, ?_⟩; have HO243 := As.mk (Kd.R_lower ho0 (below_size (be w))); have HO246 := As.mk (Kd.R_lower ho1 (below_size (be w))); have HO249 := As.mk (Kd.R_lower ho2 (below_size (be w))); replace BK239 := As.mk (blk_below (bx BK239.out) hb); replace BK240 := As.mk (blk_below (bx BK240.out) hb); replace HB := As.mk (below_step (be w) hb); (try clear hb); (try clear hb2); (try clear hk); (try clear hi); (try clear ho0); (try clear ho1); (try clear ho2)) | ((with_reducible refine gate_dst (N := 7) rfl ?_); refine box_event ?hg (N := 7) ?hd (cs := #[.slice none 0 0, .slice none 0 0, .slice none 0 0, .int .i64 0, .int .i64 0]) (t := 34) ?hr ?_; (case hd => rfl); (case hg => rfl); (case hr => first | (go_simp; done) | (go_simp; rfl)); intro gb252 hg w44 hbox hb; replace HO243 := As.mk (Kd.R_below (by (with_reducible repeat (first | apply Kd.R_alloc | apply Kd.R_drewN | apply Kd.R_drew)); exact HO243.out) hb); replace HO246 := As.mk (Kd.R_below (by (with_reducible repeat (first | apply Kd.R_alloc | apply Kd.R_drewN | apply Kd.R_drew)); exact HO246.out) hb); replace HO249 := As.mk (Kd.R_below (by (with_reducible repeat (first | apply Kd.R_alloc | apply Kd.R_drewN | apply Kd.R_drew)); exact HO249.out) hb); have BK252 := As.mk (hbox); have GW252 := As.mk (gs w hg); have GE252 := As.mk (gs w hg); replace HB := As.mk (below_step (be w) hb); have NB239_252 := As.mk (nl hg (bx BK239.out)); have NB252_239 := As.mk (ng hg (bx BK239.out)); replace BK239 := As.mk (blk_below (bx BK239.out) hb); have NB240_252 := As.mk (nl hg (bx BK240.out)); have NB252_240 := As.mk (ng hg (bx BK240.out)); replace BK240 := As.mk (blk_below (bx BK240.out) hb); clear hb hbox hg; obtain ⟨Ao45, co45, eo45⟩ := Kd.R_slice HO243.out; subst eo45; have hnb46 := NB252_239.out; have hnc46 := NB239_252.out; have hnb47 := NB252_240.out; have hnc47 := NB240_252.out; obtain ⟨hcz48_0, hcz48_1, hcz48_2, hcz48_3, hcz48_4, hfz48_0, hfz48_1, hfz48_2, hfz48_3, hfz48_4⟩ := cl5 BK252.out; obtain ⟨Ao49, co49, eo49⟩ := Kd.R_slice HO246.out; subst eo49; obtain ⟨Ao50, co50, eo50⟩ := Kd.R_slice HO249.out; subst eo50; have hnb51 := NB239_240.out; have hnc51 := NB240_239.out; obtain ⟨hcz52_0, hcz52_1, hfz52_0, hfz52_1⟩ := cl2 BK239.out) | (go_at_call 62; go_in) | ((with_reducible refine gate_dst (N := 4) rfl ?_); refine box_event ?hg (N := 4) ?hd (cs := #[.int .i64 a1_0, .int .i64 a1_1]) (t := 37) ?hr ?_; (case hd => rfl); (case hg => rfl); (case hr => first | (go_simp; done) | (go_simp; rfl)); intro gb253 hg w53 hbox hb; replace HO243 := As.mk (Kd.R_below (by (with_reducible repeat (first | apply Kd.R_alloc | apply Kd.R_drewN | apply Kd.R_drew)); exact (Kd.R_mono (Kd.R_far (p := ⟨gb252, 4, none⟩) (Kd.R_far (p := ⟨gb252, 3, none⟩) (Kd.R_far (p := ⟨gb252, 2, none⟩) (Kd.R_far (p := ⟨gb252, 1, none⟩) (Kd.R_far (p := ⟨gb252, 0, none⟩) (Kd.R_types HO243.out BK252.out (by decide)) (fun _ hk => hk.2) (.slice Ao45 t241.length co45)) (fun _ hk => hk.2) (.slice Ao49 t244.length co49)) (fun _ hk => hk.2) (.slice Ao50 t247.length co50)) (fun _ hk => hk.2) (.int .i64 t250)) (fun _ hk => hk.2) (.int .i64 t251)) (fun _ h_ => h_.1))) hb); replace HO246 := As.mk (Kd.R_below (by (with_reducible repeat (first | apply Kd.R_alloc | apply Kd.R_drewN | apply Kd.R_drew)); exact (Kd.R_mono (Kd.R_far (p := ⟨gb252, 4, none⟩) (Kd.R_far (p := ⟨gb252, 3, none⟩) (Kd.R_far (p := ⟨gb252, 2, none⟩) (Kd.R_far (p := ⟨gb252, 1, none⟩) (Kd.R_far (p := ⟨gb252, 0, none⟩) (Kd.R_types HO246.out BK252.out (by decide)) (fun _ hk => hk.2) (.slice Ao45 t241.length co45)) (fun _ hk => hk.2) (.slice Ao49 t244.length co49)) (fun _ hk => hk.2) (.slice Ao50 t247.length co50)) (fun _ hk => hk.2) (.int .i64 t250)) (fun _ hk => hk.2) (.int .i64 t251)) (fun _ h_ => h_.1))) hb); replace HO249 := As.mk (Kd.R_below (by (with_reducible repeat (first | apply Kd.R_alloc | apply Kd.R_drewN | apply Kd.R_drew)); exact (Kd.R_mono (Kd.R_far (p := ⟨gb252, 4, none⟩) (Kd.R_far (p := ⟨gb252, 3, none⟩) (Kd.R_far (p := ⟨gb252, 2, none⟩) (Kd.R_far (p := ⟨gb252, 1, none⟩) (Kd.R_far (p := ⟨gb252, 0, none⟩) (Kd.R_types HO249.out BK252.out (by decide)) (fun _ hk => hk.2) (.slice Ao45 t241.length co45)) (fun _ hk => hk.2) (.slice Ao49 t244.length co49)) (fun _ hk => hk.2) (.slice Ao50 t247.length co50)) (fun _ hk => hk.2) (.int .i64 t250)) (fun _ hk => hk.2) (.int .i64 t251)) (fun _ h_ => h_.1))) hb); have BK253 := As.mk (hbox); have GW253 := As.mk (gs w hg); have GE253 := As.mk (gs w hg); replace HB := As.mk (below_step (be w) hb); have NB239_253 := As.mk ((by rw [hg]; exact Nat.ne_of_lt (blk_lt (g := gb239) (o := .cells #[.int .i64 a1_0, .int .i64 a1_1] 37 (0, 0)) (by refine pl ?_; refine blk_far ?_ NB239_252.out _; refine pl ?_; refine blk_far ?_ NB239_252.out _; refine pl ?_; refine blk_far ?_ NB239_252.out _; refine pl ?_; refine blk_far ?_ NB239_252.out _; refine pl ?_; refine blk_far ?_ NB239_252.out _; exact bx BK239.out)) : gb239 ≠ gb253)); have NB253_239 := As.mk ((by rw [hg]; exact Nat.ne_of_gt (blk_lt (g := gb239) (o := .cells #[.int .i64 a1_0, .int .i64 a1_1] 37 (0, 0)) (by refine pl ?_; refine blk_far ?_ NB239_252.out _; refine pl ?_; refine blk_far ?_ NB239_252.out _; refine pl ?_; refine blk_far ?_ NB239_252.out _; refine pl ?_; refine blk_far ?_ NB239_252.out _; refine pl ?_; refine blk_far ?_ NB239_252.out _; exact bx BK239.out)) : gb253 ≠ gb239)); replace BK239 := As.mk (blk_below (g := gb239) (o := .cells #[.int .i64 a1_0, .int .i64 a1_1] 37 (0, 0)) (by refine pl ?_; refine blk_far ?_ NB239_252.out _; refine pl ?_; refine blk_far ?_ NB239_252.out _; refine pl ?_; refine blk_far ?_ NB239_252.out _; refine pl ?_; refine blk_far ?_ NB239_252.out _; refine pl ?_; refine blk_far ?_ NB239_252.out _; exact bx BK239.out) hb); have NB240_253 := As.mk ((by rw [hg]; exact Nat.ne_of_lt (blk_lt (g := gb240) (o := .cells #[.slice none 0 0, .slice none 0 0, .slice none 0 0, .int .i64 0, .int .i64 0] 34 (0, 0)) (by refine pl ?_; refine blk_far ?_ NB240_252.out _; refine pl ?_; refine blk_far ?_ NB240_252.out _; refine pl ?_; refine blk_far ?_ NB240_252.out _; refine pl ?_; refine blk_far ?_ NB240_252.out _; refine pl ?_; refine blk_far ?_ NB240_252.out _; exact bx BK240.out)) : gb240 ≠ gb253)); have NB253_240 := As.mk ((by rw [hg]; exact Nat.ne_of_gt (blk_lt (g := gb240) (o := .cells #[.slice none 0 0, .slice none 0 0, .slice none 0 0, .int .i64 0, .int .i64 0] 34 (0, 0)) (by refine pl ?_; refine blk_far ?_ NB240_252.out _; refine pl ?_; refine blk_far ?_ NB240_252.out _; refine pl ?_; refine blk_far ?_ NB240_252.out _; refine pl ?_; refine blk_far ?_ NB240_252.out _; refine pl ?_; refine blk_far ?_ NB240_252.out _; exact bx BK240.out)) : gb253 ≠ gb240)); replace BK240 := As.mk (blk_below (g := gb240) (o := .cells #[.slice none 0 0, .slice none 0 0, .slice none 0 0, .int .i64 0, .int .i64 0] 34 (0, 0)) (by refine pl ?_; refine blk_far ?_ NB240_252.out _; refine pl ?_; refine blk_far ?_ NB240_252.out _; refine pl ?_; refine blk_far ?_ NB240_252.out _; refine pl ?_; refine blk_far ?_ NB240_252.out _; refine pl ?_; refine blk_far ?_ NB240_252.out _; exact bx BK240.out) hb); have NB252_253 := As.mk ((by rw [hg]; exact Nat.ne_of_lt (blk_lt (g := gb252) (o := .cells #[.slice Ao45 t241.length co45, .slice Ao49 t244.length co49, .slice Ao50 t247.length co50, .int .i64 t250, .int .i64 t251] 34 (0, 0)) (by refine pl ?_; refine blk_put (cs := #[.slice Ao45 t241.length co45, .slice Ao49 t244.length co49, .slice Ao50 t247.length co50, .int .i64 t250, .int .i64 0]) ?_ 4 _ rfl; refine pl ?_; refine blk_put (cs := #[.slice Ao45 t241.length co45, .slice Ao49 t244.length co49, .slice Ao50 t247.length co50, .int .i64 0, .int .i64 0]) ?_ 3 _ rfl; refine pl ?_; refine blk_put (cs := #[.slice Ao45 t241.length co45, .slice Ao49 t244.length co49, .slice none 0 0, .int .i64 0, .int .i64 0]) ?_ 2 _ rfl; refine pl ?_; refine blk_put (cs := #[.slice Ao45 t241.length co45, .slice none 0 0, .slice none 0 0, .int .i64 0, .int .i64 0]) ?_ 1 _ rfl; refine pl ?_; refine blk_put (cs := #[.slice none 0 0, .slice none 0 0, .slice none 0 0, .int .i64 0, .int .i64 0]) ?_ 0 _ rfl; exact bx BK252.out)) : gb252 ≠ gb253)); have NB253_252 := As.mk ((by rw [hg]; exact Nat.ne_of_gt (blk_lt (g := gb252) (o := .cells #[.slice Ao45 t241.length co45, .slice Ao49 t244.length co49, .slice Ao50 t247.length co50, .int .i64 t250, .int .i64 t251] 34 (0, 0)) (by refine pl ?_; refine blk_put (cs := #[.slice Ao45 t241.length co45, .slice Ao49 t244.length co49, .slice Ao50 t247.length co50, .int .i64 t250, .int .i64 0]) ?_ 4 _ rfl; refine pl ?_; refine blk_put (cs := #[.slice Ao45 t241.length co45, .slice Ao49 t244.length co49, .slice Ao50 t247.length co50, .int .i64 0, .int .i64 0]) ?_ 3 _ rfl; refine pl ?_; refine blk_put (cs := #[.slice Ao45 t241.length co45, .slice Ao49 t244.length co49, .slice none 0 0, .int .i64 0, .int .i64 0]) ?_ 2 _ rfl; refine pl ?_; refine blk_put (cs := #[.slice Ao45 t241.length co45, .slice none 0 0, .slice none 0 0, .int .i64 0, .int .i64 0]) ?_ 1 _ rfl; refine pl ?_; refine blk_put (cs := #[.slice none 0 0, .slice none 0 0, .slice none 0 0, .int .i64 0, .int .i64 0]) ?_ 0 _ rfl; exact bx BK252.out)) : gb253 ≠ gb252)); replace BK252 := As.mk (blk_below (g := gb252) (o := .cells #[.slice Ao45 t241.length co45, .slice Ao49 t244.length co49, .slice Ao50 t247.length co50, .int .i64 t250, .int .i64 t251] 34 (0, 0)) (by refine pl ?_; refine blk_put (cs := #[.slice Ao45 t241.length co45, .slice Ao49 t244.length co49, .slice Ao50 t247.length co50, .int .i64 t250, .int .i64 0]) ?_ 4 _ rfl; refine pl ?_; refine blk_put (cs := #[.slice Ao45 t241.length co45, .slice Ao49 t244.length co49, .slice Ao50 t247.length co50, .int .i64 0, .int .i64 0]) ?_ 3 _ rfl; refine pl ?_; refine blk_put (cs := #[.slice Ao45 t241.length co45, .slice Ao49 t244.length co49, .slice none 0 0, .int .i64 0, .int .i64 0]) ?_ 2 _ rfl; refine pl ?_; refine blk_put (cs := #[.slice Ao45 t241.length co45, .slice none 0 0, .slice none 0 0, .int .i64 0, .int .i64 0]) ?_ 1 _ rfl; refine pl ?_; refine blk_put (cs := #[.slice none 0 0, .slice none 0 0, .slice none 0 0, .int .i64 0, .int .i64 0]) ?_ 0 _ rfl; exact bx BK252.out) hb); clear hb hbox hg; have hnb54 := NB252_253.out; have hnc54 := NB253_252.out; obtain ⟨hcz55_0, hcz55_1, hcz55_2, hcz55_3, hcz55_4, hfz55_0, hfz55_1, hfz55_2, hfz55_3, hfz55_4⟩ := cl5 BK252.out))
  replace HO243 := As.mk (Kd.R_drew HO243.out)
  replace HO246 := As.mk (Kd.R_drew HO246.out)
  replace HO249 := As.mk (Kd.R_drew HO249.out)
  replace BK240 := As.mk (blk_drew BK240.out)
  replace BK252 := As.mk (blk_drew BK252.out)
  replace BK253 := As.mk (blk_drew BK253.out)
  replace HB := As.mk (below_drew1 HB.out)
  refine start_ (n := 6) (S := fun w' => w'.cell? ⟨gb252, 0, none⟩ = some (.slice Ao45 t241.length co45) ∧ w'.cell? ⟨gb252, 1, none⟩ = some (.slice Ao49 t244.length co49) ∧ w'.cell? ⟨gb252, 2, none⟩ = some (.slice Ao50 t247.length co50) ∧ w'.cell? ⟨gb252, 3, none⟩ = some (.int .i64 t250) ∧ w'.cell? ⟨gb252, 4, none⟩ = some (.int .i64 t251) ∧ w'.cell? ⟨gb253, 0, none⟩ = some (.int .i64 a1_0) ∧ w'.cell? ⟨gb253, 1, none⟩ = some (.int .i64 a1_1)) (ds := []) #[O, O, O, O, O, O] (by kernel_rfl) rfl rfl ⟨(blk_cell BK252.out 0).trans rfl, (blk_cell BK252.out 1).trans rfl, (blk_cell BK252.out 2).trans rfl, (blk_cell BK252.out 3).trans rfl, (blk_cell BK252.out 4).trans rfl, (blk_cell BK253.out 0).trans rfl, (blk_cell BK253.out 1).trans rfl⟩ (fun hHeld => ?_)
  generalize w53.drew = w56 at HO243 HO246 HO249 BK240 BK252 BK253 HB hHeld ⊢
  refine pure_ (i := 0) (N := some 11) (v := ?_) (a' := ?_) #[I, O, O, O, O, O] rfl rfl (by kernel_rfl) (fun _ _ _ h => h) (Or.inl ⟨by rfl, ?_⟩) ?_ ?_
  rotate_left
  ·
   intro w'
   go_simp
   with_reducible rfl
  rotate_left
  ·
   simp only [pk, i64_w, i32_w]
   rfl
  refine pure_ (i := 1) (N := some 12) (v := ?_) (a' := ?_) #[I, I, O, O, O, O] rfl rfl (by kernel_rfl) (fun _ _ _ h => h) (Or.inl ⟨by rfl, ?_⟩) ?_ ?_
  rotate_left
  ·
   intro w'
   go_simp
   with_reducible rfl
  rotate_left
  ·
   simp only [pk, i64_w, i32_w]
   rfl
  refine take_ (i := 2) (N := some 13) (v := ?_) (a' := ?_) #[I, I, I, O, O, O] rfl rfl (by kernel_rfl) (fun _ _ _ h => h) (Or.inl ⟨by rfl, ?_⟩) hHeld ?_ ?_
  rotate_left
  ·
   rintro w' ⟨s0, s1, s2, s3, s4, s5, s6⟩
   go_simp
   with_reducible rfl
  rotate_left
  ·
   simp only [pk, i64_w, i32_w]
   rfl
  refine take_ (i := 3) (N := some 14) (v := ?_) (a' := ?_) #[I, I, I, I, O, O] rfl rfl (by kernel_rfl) (fun _ _ _ h => h) (Or.inl ⟨by rfl, ?_⟩) hHeld ?_ ?_
  rotate_left
  ·
   rintro w' ⟨s0, s1, s2, s3, s4, s5, s6⟩
   go_simp
   with_reducible rfl
  rotate_left
  ·
   simp only [pk, i64_w, i32_w]
   rfl
  refine one_ (i := 4) (N := some 15) #[I, I, I, I, I, O] rfl rfl (by kernel_rfl) (by decide) (fun K hK => ?_)
  refine goes_ Try.func75 (by kernel_rfl) rfl #[.agg #[.slice Ao45 t241.length co45, .slice Ao49 t244.length co49, .slice Ao50 t247.length co50, .int .i64 t250, .int .i64 t251], .agg #[.int .i64 a1_0, .int .i64 a1_1]] (by rfl) rfl rfl (by (try simp only [lm]); first | done | rfl | (simp only [List.length_drop, List.length_take]; rfl)) ?_
  with_reducible refine (spec_l09Live.calls _ _ t241 _ _ t244 _ _ t247 t250 t251 a1_0 a1_1 false _ ?side1 ?side2 ?side3 ?side4 ?side5 ?side6 A6.out).mono ?_
  (case side1 => repeat (first | exact (Kd.R_reads' HO243.out).2.2 | (with_reducible refine Kd.C_alloc ?_ _) | (with_reducible refine Kd.C_drewN ?_ _) | (with_reducible refine Kd.C_drew ?_)))
  (case side2 => exact (Kd.R_reads' HO243.out).2.1)
  (case side3 => repeat (first | exact (Kd.R_reads' HO246.out).2.2 | (with_reducible refine Kd.C_alloc ?_ _) | (with_reducible refine Kd.C_drewN ?_ _) | (with_reducible refine Kd.C_drew ?_)))
  (case side4 => exact (Kd.R_reads' HO246.out).2.1)
  (case side5 => repeat (first | exact (Kd.R_reads' HO249.out).2.2 | (with_reducible refine Kd.C_alloc ?_ _) | (with_reducible refine Kd.C_drewN ?_ _) | (with_reducible refine Kd.C_drew ?_)))
  (case side6 => exact (Kd.R_reads' HO249.out).2.1)
  rintro e w57 ⟨rfl, hb⟩
  refine ⟨_, rfl, ?_⟩
  replace HO243 := As.mk (Kd.R_below (by (with_reducible repeat (first | apply Kd.R_alloc | apply Kd.R_drewN | apply Kd.R_drew)); exact HO243.out) hb)
  replace HO246 := As.mk (Kd.R_below (by (with_reducible repeat (first | apply Kd.R_alloc | apply Kd.R_drewN | apply Kd.R_drew)); exact HO246.out) hb)
  replace HO249 := As.mk (Kd.R_below (by (with_reducible repeat (first | apply Kd.R_alloc | apply Kd.R_drewN | apply Kd.R_drew)); exact HO249.out) hb)
  replace BK240 := As.mk (blk_below (bx BK240.out) hb)
  replace BK252 := As.mk (blk_below (bx BK252.out) hb)
  replace BK253 := As.mk (blk_below (bx BK253.out) hb)
  replace HB := As.mk (below_step (be w) hb)
  (try clear hb)
  (try clear hb2)
  (try clear hk)
  (try clear hi)
  refine hK.out _ _ ⟨(blk_cell BK252.out 0).trans rfl, (blk_cell BK252.out 1).trans rfl, (blk_cell BK252.out 2).trans rfl, (blk_cell BK252.out 3).trans rfl, (blk_cell BK252.out 4).trans rfl, (blk_cell BK253.out 0).trans rfl, (blk_cell BK253.out 1).trans rfl⟩ (fun hHeld => ?_)
  clear hK K
  refine norm_ (a' := ?_) ?_ ?_
  rotate_left
  ·
   show Act.put _ (some 15) _ = _
   simp only [pk, i64_w, i32_w]
   rfl
  refine pure_ (i := 5) (N := some 16) (v := ?_) (a' := ?_) #[I, I, I, I, I, I] rfl rfl (by kernel_rfl) (fun _ _ _ h => h) (Or.inl ⟨by rfl, ?_⟩) ?_ ?_
  rotate_left
  ·
   intro w'
   go_simp
   with_reducible rfl
  rotate_left
  ·
   simp only [pk, i64_w, i32_w]
   rfl
  refine done_ (by kernel_rfl) ?_
  obtain ⟨hcz58_0, hcz58_1, hcz58_2, hcz58_3, hcz58_4, hfz58_0, hfz58_1, hfz58_2, hfz58_3, hfz58_4⟩ := cl5 BK252.out
  obtain ⟨hcz59_0, hcz59_1, hcz59_2, hcz59_3, hcz59_4, hfz59_0, hfz59_1, hfz59_2, hfz59_3, hfz59_4⟩ := cl5 BK240.out
  try go_wp2_with (first | (with_reducible show bodyPost Try.prog Try.f62 _ _ _ _; (try simp only [Exit.inBlock, Exit.then]); refine bodyPost_ret (results_none rfl _ _ _) rfl ?_; simp only []; go_at_K; (try ((first | refine lay_top (by go_cell_look) ?_ | refine lay_top1 (by go_cell_look) ?_ | refine lay_top2 (by go_cell_look) ?_); intro hlay_))))
  refine bodyPost_ret (results_cell_row rfl _ _ gb240 34 #[.slice Ao45 t241.length co45, .slice Ao49 t244.length co49, .slice Ao50 t247.length co50, .int .i64 t250, .int .i64 5] (0, 0) _ rfl (by refine pl ?_; refine blk_put (cs := #[.slice Ao45 t241.length co45, .slice Ao49 t244.length co49, .slice Ao50 t247.length co50, .int .i64 t250, .int .i64 0]) ?_ 4 _ rfl; refine pl ?_; refine blk_put (cs := #[.slice Ao45 t241.length co45, .slice Ao49 t244.length co49, .slice Ao50 t247.length co50, .int .i64 0, .int .i64 0]) ?_ 3 _ rfl; refine pl ?_; refine blk_put (cs := #[.slice Ao45 t241.length co45, .slice Ao49 t244.length co49, .slice none 0 0, .int .i64 0, .int .i64 0]) ?_ 2 _ rfl; refine pl ?_; refine blk_put (cs := #[.slice Ao45 t241.length co45, .slice none 0 0, .slice none 0 0, .int .i64 0, .int .i64 0]) ?_ 1 _ rfl; refine pl ?_; refine blk_put (cs := #[.slice none 0 0, .slice none 0 0, .slice none 0 0, .int .i64 0, .int .i64 0]) ?_ 0 _ rfl; refine pl ?_; refine blk_far ?_ NB240_252.out _; exact bx BK240.out) Try.underlying34 rfl (by kernel_rfl)) rfl ?_
  exact ⟨_, _, _, by first | rfl | (simp [errW_none, errW_some] <;> rfl) | (simp [*, errW_none, errW_some] <;> rfl), by (with_reducible repeat (first | apply Kd.R_alloc | apply Kd.R_drewN | apply Kd.R_drew)); exact Kd.R_mono (Kd.R_far (p := ⟨gb240, 4, none⟩) (Kd.R_far (p := ⟨gb240, 3, none⟩) (Kd.R_far (p := ⟨gb240, 2, none⟩) (Kd.R_far (p := ⟨gb240, 1, none⟩) (Kd.R_far (p := ⟨gb240, 0, none⟩) (Kd.R_far (p := ⟨gb252, 4, none⟩) (Kd.R_types (Kd.R_types HO243.out BK252.out (by decide)) BK240.out (by decide)) (fun _ hk => hk.1.2) (.int .i64 5)) (fun _ hk => hk.2) (.slice Ao45 t241.length co45)) (fun _ hk => hk.2) (.slice Ao49 t244.length co49)) (fun _ hk => hk.2) (.slice Ao50 t247.length co50)) (fun _ hk => hk.2) (.int .i64 t250)) (fun _ hk => hk.2) (.int .i64 5)) (fun _ hk => trivial), by (with_reducible repeat (first | apply Kd.R_alloc | apply Kd.R_drewN | apply Kd.R_drew)); exact Kd.R_mono (Kd.R_far (p := ⟨gb240, 4, none⟩) (Kd.R_far (p := ⟨gb240, 3, none⟩) (Kd.R_far (p := ⟨gb240, 2, none⟩) (Kd.R_far (p := ⟨gb240, 1, none⟩) (Kd.R_far (p := ⟨gb240, 0, none⟩) (Kd.R_far (p := ⟨gb252, 4, none⟩) (Kd.R_types (Kd.R_types HO246.out BK252.out (by decide)) BK240.out (by decide)) (fun _ hk => hk.1.2) (.int .i64 5)) (fun _ hk => hk.2) (.slice Ao45 t241.length co45)) (fun _ hk => hk.2) (.slice Ao49 t244.length co49)) (fun _ hk => hk.2) (.slice Ao50 t247.length co50)) (fun _ hk => hk.2) (.int .i64 t250)) (fun _ hk => hk.2) (.int .i64 5)) (fun _ hk => hk.1.1), by (with_reducible repeat (first | apply Kd.R_alloc | apply Kd.R_drewN | apply Kd.R_drew)); exact Kd.R_mono (Kd.R_far (p := ⟨gb240, 4, none⟩) (Kd.R_far (p := ⟨gb240, 3, none⟩) (Kd.R_far (p := ⟨gb240, 2, none⟩) (Kd.R_far (p := ⟨gb240, 1, none⟩) (Kd.R_far (p := ⟨gb240, 0, none⟩) (Kd.R_far (p := ⟨gb252, 4, none⟩) (Kd.R_types (Kd.R_types HO249.out BK252.out (by decide)) BK240.out (by decide)) (fun _ hk => hk.1.2) (.int .i64 5)) (fun _ hk => hk.2) (.slice Ao45 t241.length co45)) (fun _ hk => hk.2) (.slice Ao49 t244.length co49)) (fun _ hk => hk.2) (.slice Ao50 t247.length co50)) (fun _ hk => hk.2) (.int .i64 t250)) (fun _ hk => hk.2) (.int .i64 5)) (fun _ hk => hk.1.1), be w⟩
 subst c7
 rw [if_pos rfl] at H
 by_cases c8 : 0 ≤ a1_1
 rotate_left
 ·
  rw [if_neg c8] at H
  exact absurd H (by simp)
 rw [if_pos c8] at H
 have c8b0 : decide (0 ≤ a1_1) = true := decide_eq_true c8
 clear c8
 by_cases c9 : a1_1 < (t241.length : Int)
 rotate_left
 ·
  rw [if_neg c9] at H
  exact absurd H (by simp)
 rw [if_pos c9] at H
 have c9b0 : decide (a1_1 < (t241.length : Int)) = true := decide_eq_true c9
 clear c9
 obtain ⟨y255, hy255⟩ : ∃ y_ : List (S93), y_ = (t241.set (a1_1 : Int).toNat (⟨(rd_T93 t241 a1_1).f0, a2⟩ : S93)) := ⟨_, rfl⟩
 replace H : (some (y255, t244, t247, t250, t251)) = some (r1, r2, r3, r4, r5) := by first | (rw [hy255]; with_reducible exact H) | (have H2_ := (Option.bind_some _ _).symm.trans H; rw [hy255]; with_reducible exact H2_) | (have H2_ := (Option.bind_some _ _).symm.trans H; with_reducible exact H2_) | with_reducible exact H | (rw [hy255]; exact H) | exact H
 have Ny255 := As.mk hy255
 clear hy255
 simp only [Option.some.injEq, Prod.mk.injEq] at H
 obtain ⟨rfl, rfl, rfl, rfl, rfl⟩ := H
 go_enter Try.func32, Try.ntmps32
 try go_wp2_with (first | ((with_reducible refine gate_dst (N := 3) rfl ?_); refine box_event ?hg (N := 3) ?hd (cs := #[.slice A0_0 l0_0.length c0_0, .slice A0_1 l0_1.length c0_1, .slice A0_2 l0_2.length c0_2, .int .i64 a0_3, .int .i64 a0_4]) (t := 34) ?hr ?_; (case hd => rfl); (case hg => rfl); (case hr => first | (go_simp; done) | (go_simp; rfl)); intro gb238 hg w11 hbox hb; have BK238 := As.mk (hbox); have GW238 := As.mk (gs w hg); have GE238 := As.mk (gs w hg); replace HB := As.mk (below_step (be w) hb); clear hb hbox hg) | ((with_reducible refine gate_dst (N := 4) rfl ?_); refine box_event ?hg (N := 4) ?hd (cs := #[.int .i64 a1_0, .int .i64 a1_1]) (t := 37) ?hr ?_; (case hd => rfl); (case hg => rfl); (case hr => first | (go_simp; done) | (go_simp; rfl)); intro gb239 hg w12 hbox hb; have BK239 := As.mk (hbox); have GW239 := As.mk (gs w hg); have GE239 := As.mk (gs w hg); replace HB := As.mk (below_step (be w) hb); have NB238_239 := As.mk (nl hg (bx BK238.out)); have NB239_238 := As.mk (ng hg (bx BK238.out)); replace BK238 := As.mk (blk_below (bx BK238.out) hb); clear hb hbox hg) | ((with_reducible refine gate_dst (N := 6) rfl ?_); refine box_event ?hg (N := 6) ?hd (cs := #[.slice none 0 0, .slice none 0 0, .slice none 0 0, .int .i64 0, .int .i64 0]) (t := 34) ?hr ?_; (case hd => rfl); (case hg => rfl); (case hr => first | (go_simp; done) | (go_simp; rfl)); intro gb240 hg w13 hbox hb; have BK240 := As.mk (hbox); have GW240 := As.mk (gs w hg); have GE240 := As.mk (gs w hg); replace HB := As.mk (below_step (be w) hb); have NB238_240 := As.mk (nl hg (bx BK238.out)); have NB240_238 := As.mk (ng hg (bx BK238.out)); replace BK238 := As.mk (blk_below (bx BK238.out) hb); have NB239_240 := As.mk (nl hg (bx BK239.out)); have NB240_239 := As.mk (ng hg (bx BK239.out)); replace BK239 := As.mk (blk_below (bx BK239.out) hb); clear hb hbox hg; have hnb14 := NB238_239.out; have hnc14 := NB239_238.out; have hnb15 := NB238_240.out; have hnc15 := NB240_238.out; obtain ⟨hcz16_0, hcz16_1, hcz16_2, hcz16_3, hcz16_4, hfz16_0, hfz16_1, hfz16_2, hfz16_3, hfz16_4⟩ := cl5 BK238.out) | ((with_reducible refine gate_callee (f := 50) rfl ?_); refine goesL_ (some 9) rfl rfl Try.func50 (by kernel_rfl) rfl #[.agg #[.slice A0_0 l0_0.length c0_0, .slice A0_1 l0_1.length c0_1, .slice A0_2 l0_2.length c0_2, .int .i64 a0_3, .int .i64 a0_4]] rfl (by (try simp only [lm]); first | done | rfl | (simp only [List.length_drop, List.length_take]; rfl)) ?_; (with_reducible refine (spec_l09Copy.calls _ _ l0_0 _ _ l0_1 _ _ l0_2 a0_3 a0_4 t241 t244 t247 t250 t251 _ ?side1 ?side2 ?side3 ?side4 ?side5 ?side6 A4.out).mono ?_); (case side1 => exact Kd.C_below HR0_0.out (be w)); (case side2 => exact HC0_0.out); (case side3 => exact Kd.C_below HR0_1.out (be w)); (case side4 => exact HC0_1.out); (case side5 => exact Kd.C_below HR0_2.out (be w)); (case side6 => exact HC0_2.out); rintro e w17 ⟨v242, v245, v248, rfl, ho0, ho1, ho2, hb⟩; refine ⟨_, rfl, ?_⟩; have HO243 := As.mk (Kd.R_lower ho0 (below_size (be w))); have HO246 := As.mk (Kd.R_lower ho1 (below_size (be w))); have HO249 := As.mk (Kd.R_lower ho2 (below_size (be w))); replace BK239 := As.mk (blk_below (bx BK239.out) hb); replace BK240 := As.mk (blk_below (bx BK240.out) hb); replace HB := As.mk (below_step (be w) hb); (try clear hb); (try clear hb2); (try clear hk); (try clear hi); (try clear ho0); (try clear ho1); (try clear ho2)) | ((with_reducible refine gate_dst (N := 7) rfl ?_); refine box_event ?hg (N := 7) ?hd (cs := #[.slice none 0 0, .slice none 0 0, .slice none 0 0, .int .i64 0, .int .i64 0]) (t := 34) ?hr ?_; (case hd => rfl); (case hg => rfl); (case hr => first | (go_simp; done) | (go_simp; rfl)); intro gb252 hg w18 hbox hb; replace HO243 := As.mk (Kd.R_below (by (with_reducible repeat (first | apply Kd.R_alloc | apply Kd.R_drewN | apply Kd.R_drew)); exact HO243.out) hb); replace HO246 := As.mk (Kd.R_below (by (with_reducible repeat (first | apply Kd.R_alloc | apply Kd.R_drewN | apply Kd.R_drew)); exact HO246.out) hb); replace HO249 := As.mk (Kd.R_below (by (with_reducible repeat (first | apply Kd.R_alloc | apply Kd.R_drewN | apply Kd.R_drew)); exact HO249.out) hb); have BK252 := As.mk (hbox); have GW252 := As.mk (gs w hg); have GE252 := As.mk (gs w hg); replace HB := As.mk (below_step (be w) hb); have NB239_252 := As.mk (nl hg (bx BK239.out)); have NB252_239 := As.mk (ng hg (bx BK239.out)); replace BK239 := As.mk (blk_below (bx BK239.out) hb); have NB240_252 := As.mk (nl hg (bx BK240.out)); have NB252_240 := As.mk (ng hg (bx BK240.out)); replace BK240 := As.mk (blk_below (bx BK240.out) hb); clear hb hbox hg; obtain ⟨Ao19, co19, eo19⟩ := Kd.R_slice HO243.out; subst eo19; have hnb20 := NB252_239.out; have hnc20 := NB239_252.out; have hnb21 := NB252_240.out; have hnc21 := NB240_252.out; obtain ⟨hcz22_0, hcz22_1, hcz22_2, hcz22_3, hcz22_4, hfz22_0, hfz22_1, hfz22_2, hfz22_3, hfz22_4⟩ := cl5 BK252.out; obtain ⟨Ao23, co23, eo23⟩ := Kd.R_slice HO246.out; subst eo23; obtain ⟨Ao24, co24, eo24⟩ := Kd.R_slice HO249.out; subst eo24; have hnb25 := NB239_240.out; have hnc25 := NB240_239.out; obtain ⟨hcz26_0, hcz26_1, hfz26_0, hfz26_1⟩ := cl2 BK239.out) | (go_at_call 62; go_in) | ((with_reducible refine gate_dst (N := 4) rfl ?_); refine box_event ?hg (N := 4) ?hd (cs := #[.int .i64 a1_0, .int .i64 a1_1]) (t := 37) ?hr ?_; (case hd => rfl); (case hg => rfl); (case hr => first | (go_simp; done) | (go_simp; rfl)); intro gb253 hg w27 hbox hb; replace HO243 := As.mk (Kd.R_below (by (with_reducible repeat (first | apply Kd.R_alloc | apply Kd.R_drewN | apply Kd.R_drew)); exact (Kd.R_mono (Kd.R_far (p := ⟨gb252, 4, none⟩) (Kd.R_far (p := ⟨gb252, 3, none⟩) (Kd.R_far (p := ⟨gb252, 2, none⟩) (Kd.R_far (p := ⟨gb252, 1, none⟩) (Kd.R_far (p := ⟨gb252, 0, none⟩) (Kd.R_types HO243.out BK252.out (by decide)) (fun _ hk => hk.2) (.slice Ao19 t241.length co19)) (fun _ hk => hk.2) (.slice Ao23 t244.length co23)) (fun _ hk => hk.2) (.slice Ao24 t247.length co24)) (fun _ hk => hk.2) (.int .i64 t250)) (fun _ hk => hk.2) (.int .i64 t251)) (fun _ h_ => h_.1))) hb); replace HO246 := As.mk (Kd.R_below (by (with_reducible repeat (first | apply Kd.R_alloc | apply Kd.R_drewN | apply Kd.R_drew)); exact (Kd.R_mono (Kd.R_far (p := ⟨gb252, 4, none⟩) (Kd.R_far (p := ⟨gb252, 3, none⟩) (Kd.R_far (p := ⟨gb252, 2, none⟩) (Kd.R_far (p := ⟨gb252, 1, none⟩) (Kd.R_far (p := ⟨gb252, 0, none⟩) (Kd.R_types HO246.out BK252.out (by decide)) (fun _ hk => hk.2) (.slice Ao19 t241.length co19)) (fun _ hk => hk.2) (.slice Ao23 t244.length co23)) (fun _ hk => hk.2) (.slice Ao24 t247.length co24)) (fun _ hk => hk.2) (.int .i64 t250)) (fun _ hk => hk.2) (.int .i64 t251)) (fun _ h_ => h_.1))) hb); replace HO249 := As.mk (Kd.R_below (by (with_reducible repeat (first | apply Kd.R_alloc | apply Kd.R_drewN | apply Kd.R_drew)); exact (Kd.R_mono (Kd.R_far (p := ⟨gb252, 4, none⟩) (Kd.R_far (p := ⟨gb252, 3, none⟩) (Kd.R_far (p := ⟨gb252, 2, none⟩) (Kd.R_far (p := ⟨gb252, 1, none⟩) (Kd.R_far (p := ⟨gb252, 0, none⟩) (Kd.R_types HO249.out BK252.out (by decide)) (fun _ hk => hk.2) (.slice Ao19 t241.length co19)) (fun _ hk => hk.2) (.slice Ao23 t244.length co23)) (fun _ hk => hk.2) (.slice Ao24 t247.length co24)) (fun _ hk => hk.2) (.int .i64 t250)) (fun _ hk => hk.2) (.int .i64 t251)) (fun _ h_ => h_.1))) hb); have BK253 := As.mk (hbox); have GW253 := As.mk (gs w hg); have GE253 := As.mk (gs w hg); replace HB := As.mk (below_step (be w) hb); have NB239_253 := As.mk ((by rw [hg]; exact Nat.ne_of_lt (blk_lt (g := gb239) (o := .cells #[.int .i64 a1_0, .int .i64 a1_1] 37 (0, 0)) (by refine pl ?_; refine blk_far ?_ NB239_252.out _; refine pl ?_; refine blk_far ?_ NB239_252.out _; refine pl ?_; refine blk_far ?_ NB239_252.out _; refine pl ?_; refine blk_far ?_ NB239_252.out _; refine pl ?_; refine blk_far ?_ NB239_252.out _; exact bx BK239.out)) : gb239 ≠ gb253)); have NB253_239 := As.mk ((by rw [hg]; exact Nat.ne_of_gt (blk_lt (g := gb239) (o := .cells #[.int .i64 a1_0, .int .i64 a1_1] 37 (0, 0)) (by refine pl ?_; refine blk_far ?_ NB239_252.out _; refine pl ?_; refine blk_far ?_ NB239_252.out _; refine pl ?_; refine blk_far ?_ NB239_252.out _; refine pl ?_; refine blk_far ?_ NB239_252.out _; refine pl ?_; refine blk_far ?_ NB239_252.out _; exact bx BK239.out)) : gb253 ≠ gb239)); replace BK239 := As.mk (blk_below (g := gb239) (o := .cells #[.int .i64 a1_0, .int .i64 a1_1] 37 (0, 0)) (by refine pl ?_; refine blk_far ?_ NB239_252.out _; refine pl ?_; refine blk_far ?_ NB239_252.out _; refine pl ?_; refine blk_far ?_ NB239_252.out _; refine pl ?_; refine blk_far ?_ NB239_252.out _; refine pl ?_; refine blk_far ?_ NB239_252.out _; exact bx BK239.out) hb); have NB240_253 := As.mk ((by rw [hg]; exact Nat.ne_of_lt (blk_lt (g := gb240) (o := .cells #[.slice none 0 0, .slice none 0 0, .slice none 0 0, .int .i64 0, .int .i64 0] 34 (0, 0)) (by refine pl ?_; refine blk_far ?_ NB240_252.out _; refine pl ?_; refine blk_far ?_ NB240_252.out _; refine pl ?_; refine blk_far ?_ NB240_252.out _; refine pl ?_; refine blk_far ?_ NB240_252.out _; refine pl ?_; refine blk_far ?_ NB240_252.out _; exact bx BK240.out)) : gb240 ≠ gb253)); have NB253_240 := As.mk ((by rw [hg]; exact Nat.ne_of_gt (blk_lt (g := gb240) (o := .cells #[.slice none 0 0, .slice none 0 0, .slice none 0 0, .int .i64 0, .int .i64 0] 34 (0, 0)) (by refine pl ?_; refine blk_far ?_ NB240_252.out _; refine pl ?_; refine blk_far ?_ NB240_252.out _; refine pl ?_; refine blk_far ?_ NB240_252.out _; refine pl ?_; refine blk_far ?_ NB240_252.out _; refine pl ?_; refine blk_far ?_ NB240_252.out _; exact bx BK240.out)) : gb253 ≠ gb240)); replace BK240 := As.mk (blk_below (g := gb240) (o := .cells #[.slice none 0 0, .slice none 0 0, .slice none 0 0, .int .i64 0, .int .i64 0] 34 (0, 0)) (by refine pl ?_; refine blk_far ?_ NB240_252.out _; refine pl ?_; refine blk_far ?_ NB240_252.out _; refine pl ?_; refine blk_far ?_ NB240_252.out _; refine pl ?_; refine blk_far ?_ NB240_252.out _; refine pl ?_; refine blk_far ?_ NB240_252.out _; exact bx BK240.out) hb); have NB252_253 := As.mk ((by rw [hg]; exact Nat.ne_of_lt (blk_lt (g := gb252) (o := .cells #[.slice Ao19 t241.length co19, .slice Ao23 t244.length co23, .slice Ao24 t247.length co24, .int .i64 t250, .int .i64 t251] 34 (0, 0)) (by refine pl ?_; refine blk_put (cs := #[.slice Ao19 t241.length co19, .slice Ao23 t244.length co23, .slice Ao24 t247.length co24, .int .i64 t250, .int .i64 0]) ?_ 4 _ rfl; refine pl ?_; refine blk_put (cs := #[.slice Ao19 t241.length co19, .slice Ao23 t244.length co23, .slice Ao24 t247.length co24, .int .i64 0, .int .i64 0]) ?_ 3 _ rfl; refine pl ?_; refine blk_put (cs := #[.slice Ao19 t241.length co19, .slice Ao23 t244.length co23, .slice none 0 0, .int .i64 0, .int .i64 0]) ?_ 2 _ rfl; refine pl ?_; refine blk_put (cs := #[.slice Ao19 t241.length co19, .slice none 0 0, .slice none 0 0, .int .i64 0, .int .i64 0]) ?_ 1 _ rfl; refine pl ?_; refine blk_put (cs := #[.slice none 0 0, .slice none 0 0, .slice none 0 0, .int .i64 0, .int .i64 0]) ?_ 0 _ rfl; exact bx BK252.out)) : gb252 ≠ gb253)); have NB253_252 := As.mk ((by rw [hg]; exact Nat.ne_of_gt (blk_lt (g := gb252) (o := .cells #[.slice Ao19 t241.length co19, .slice Ao23 t244.length co23, .slice Ao24 t247.length co24, .int .i64 t250, .int .i64 t251] 34 (0, 0)) (by refine pl ?_; refine blk_put (cs := #[.slice Ao19 t241.length co19, .slice Ao23 t244.length co23, .slice Ao24 t247.length co24, .int .i64 t250, .int .i64 0]) ?_ 4 _ rfl; refine pl ?_; refine blk_put (cs := #[.slice Ao19 t241.length co19, .slice Ao23 t244.length co23, .slice Ao24 t247.length co24, .int .i64 0, .int .i64 0]) ?_ 3 _ rfl; refine pl ?_; refine blk_put (cs := #[.slice Ao19 t241.length co19, .slice Ao23 t244.length co23, .slice none 0 0, .int .i64 0, .int .i64 0]) ?_ 2 _ rfl; refine pl ?_; refine blk_put (cs := #[.slice Ao19 t241.length co19, .slice none 0 0, .slice none 0 0, .int .i64 0, .int .i64 0]) ?_ 1 _ rfl; refine pl ?_; refine blk_put (cs := #[.slice none 0 0, .slice none 0 0, .slice none 0 0, .int .i64 0, .int .i64 0]) ?_ 0 _ rfl; exact bx BK252.out)) : gb253 ≠ gb252)); replace BK252 := As.mk (blk_below (g := gb252) (o := .cells #[.slice Ao19 t241.length co19, .slice Ao23 t244.length co23, .slice Ao24 t247.length co24, .int .i64 t250, .int .i64 t251] 34 (0, 0)) (by refine pl ?_; refine blk_put (cs := #[.slice Ao19 t241.length co19, .slice Ao23 t244.length co23, .slice Ao24 t247.length co24, .int .i64 t250, .int .i64 0]) ?_ 4 _ rfl; refine pl ?_; refine blk_put (cs := #[.slice Ao19 t241.length co19, .slice Ao23 t244.length co23, .slice Ao24 t247.length co24, .int .i64 0, .int .i64 0]) ?_ 3 _ rfl; refine pl ?_; refine blk_put (cs := #[.slice Ao19 t241.length co19, .slice Ao23 t244.length co23, .slice none 0 0, .int .i64 0, .int .i64 0]) ?_ 2 _ rfl; refine pl ?_; refine blk_put (cs := #[.slice Ao19 t241.length co19, .slice none 0 0, .slice none 0 0, .int .i64 0, .int .i64 0]) ?_ 1 _ rfl; refine pl ?_; refine blk_put (cs := #[.slice none 0 0, .slice none 0 0, .slice none 0 0, .int .i64 0, .int .i64 0]) ?_ 0 _ rfl; exact bx BK252.out) hb); clear hb hbox hg; have hnb28 := NB252_253.out; have hnc28 := NB253_252.out; obtain ⟨hcz29_0, hcz29_1, hcz29_2, hcz29_3, hcz29_4, hfz29_0, hfz29_1, hfz29_2, hfz29_3, hfz29_4⟩ := cl5 BK252.out))
 replace HO243 := As.mk (Kd.R_drew HO243.out)
 replace HO246 := As.mk (Kd.R_drew HO246.out)
 replace HO249 := As.mk (Kd.R_drew HO249.out)
 replace BK240 := As.mk (blk_drew BK240.out)
 replace BK252 := As.mk (blk_drew BK252.out)
 replace BK253 := As.mk (blk_drew BK253.out)
 replace HB := As.mk (below_drew1 HB.out)
 refine start_ (n := 6) (S := fun w' => w'.cell? ⟨gb252, 0, none⟩ = some (.slice Ao19 t241.length co19) ∧ w'.cell? ⟨gb252, 1, none⟩ = some (.slice Ao23 t244.length co23) ∧ w'.cell? ⟨gb252, 2, none⟩ = some (.slice Ao24 t247.length co24) ∧ w'.cell? ⟨gb252, 3, none⟩ = some (.int .i64 t250) ∧ w'.cell? ⟨gb252, 4, none⟩ = some (.int .i64 t251) ∧ w'.cell? ⟨gb253, 0, none⟩ = some (.int .i64 a1_0) ∧ w'.cell? ⟨gb253, 1, none⟩ = some (.int .i64 a1_1)) (ds := []) #[O, O, O, O, O, O] (by kernel_rfl) rfl rfl ⟨(blk_cell BK252.out 0).trans rfl, (blk_cell BK252.out 1).trans rfl, (blk_cell BK252.out 2).trans rfl, (blk_cell BK252.out 3).trans rfl, (blk_cell BK252.out 4).trans rfl, (blk_cell BK253.out 0).trans rfl, (blk_cell BK253.out 1).trans rfl⟩ (fun hHeld => ?_)
 generalize w27.drew = w30 at HO243 HO246 HO249 BK240 BK252 BK253 HB hHeld ⊢
 refine pure_ (i := 0) (N := some 11) (v := ?_) (a' := ?_) #[I, O, O, O, O, O] rfl rfl (by kernel_rfl) (fun _ _ _ h => h) (Or.inl ⟨by rfl, ?_⟩) ?_ ?_
 rotate_left
 ·
  intro w'
  go_simp
  with_reducible rfl
 rotate_left
 ·
  simp only [pk, i64_w, i32_w]
  rfl
 refine pure_ (i := 1) (N := some 12) (v := ?_) (a' := ?_) #[I, I, O, O, O, O] rfl rfl (by kernel_rfl) (fun _ _ _ h => h) (Or.inl ⟨by rfl, ?_⟩) ?_ ?_
 rotate_left
 ·
  intro w'
  go_simp
  with_reducible rfl
 rotate_left
 ·
  simp only [pk, i64_w, i32_w]
  rfl
 refine take_ (i := 2) (N := some 13) (v := ?_) (a' := ?_) #[I, I, I, O, O, O] rfl rfl (by kernel_rfl) (fun _ _ _ h => h) (Or.inl ⟨by rfl, ?_⟩) hHeld ?_ ?_
 rotate_left
 ·
  rintro w' ⟨s0, s1, s2, s3, s4, s5, s6⟩
  go_simp
  with_reducible rfl
 rotate_left
 ·
  simp only [pk, i64_w, i32_w]
  rfl
 refine take_ (i := 3) (N := some 14) (v := ?_) (a' := ?_) #[I, I, I, I, O, O] rfl rfl (by kernel_rfl) (fun _ _ _ h => h) (Or.inl ⟨by rfl, ?_⟩) hHeld ?_ ?_
 rotate_left
 ·
  rintro w' ⟨s0, s1, s2, s3, s4, s5, s6⟩
  go_simp
  with_reducible rfl
 rotate_left
 ·
  simp only [pk, i64_w, i32_w]
  rfl
 refine one_ (i := 4) (N := some 15) #[I, I, I, I, I, O] rfl rfl (by kernel_rfl) (by decide) (fun K hK => ?_)
 refine goes_ Try.func75 (by kernel_rfl) rfl #[.agg #[.slice Ao19 t241.length co19, .slice Ao23 t244.length co23, .slice Ao24 t247.length co24, .int .i64 t250, .int .i64 t251], .agg #[.int .i64 a1_0, .int .i64 a1_1]] (by rfl) rfl rfl (by (try simp only [lm]); first | done | rfl | (simp only [List.length_drop, List.length_take]; rfl)) ?_
 with_reducible refine (spec_l09Live.calls _ _ t241 _ _ t244 _ _ t247 t250 t251 a1_0 a1_1 true _ ?side1 ?side2 ?side3 ?side4 ?side5 ?side6 A6.out).mono ?_
 (case side1 => repeat (first | exact (Kd.R_reads' HO243.out).2.2 | (with_reducible refine Kd.C_alloc ?_ _) | (with_reducible refine Kd.C_drewN ?_ _) | (with_reducible refine Kd.C_drew ?_)))
 (case side2 => exact (Kd.R_reads' HO243.out).2.1)
 (case side3 => repeat (first | exact (Kd.R_reads' HO246.out).2.2 | (with_reducible refine Kd.C_alloc ?_ _) | (with_reducible refine Kd.C_drewN ?_ _) | (with_reducible refine Kd.C_drew ?_)))
 (case side4 => exact (Kd.R_reads' HO246.out).2.1)
 (case side5 => repeat (first | exact (Kd.R_reads' HO249.out).2.2 | (with_reducible refine Kd.C_alloc ?_ _) | (with_reducible refine Kd.C_drewN ?_ _) | (with_reducible refine Kd.C_drew ?_)))
 (case side6 => exact (Kd.R_reads' HO249.out).2.1)
 rintro e w31 ⟨rfl, hb⟩
 refine ⟨_, rfl, ?_⟩
 replace HO243 := As.mk (Kd.R_below (by (with_reducible repeat (first | apply Kd.R_alloc | apply Kd.R_drewN | apply Kd.R_drew)); exact HO243.out) hb)
 replace HO246 := As.mk (Kd.R_below (by (with_reducible repeat (first | apply Kd.R_alloc | apply Kd.R_drewN | apply Kd.R_drew)); exact HO246.out) hb)
 replace HO249 := As.mk (Kd.R_below (by (with_reducible repeat (first | apply Kd.R_alloc | apply Kd.R_drewN | apply Kd.R_drew)); exact HO249.out) hb)
 replace BK240 := As.mk (blk_below (bx BK240.out) hb)
 replace BK252 := As.mk (blk_below (bx BK252.out) hb)
 replace BK253 := As.mk (blk_below (bx BK253.out) hb)
 replace HB := As.mk (below_step (be w) hb)
 (try clear hb)
 (try clear hb2)
 (try clear hk)
 (try clear hi)
 refine hK.out _ _ ⟨(blk_cell BK252.out 0).trans rfl, (blk_cell BK252.out 1).trans rfl, (blk_cell BK252.out 2).trans rfl, (blk_cell BK252.out 3).trans rfl, (blk_cell BK252.out 4).trans rfl, (blk_cell BK253.out 0).trans rfl, (blk_cell BK253.out 1).trans rfl⟩ (fun hHeld => ?_)
 clear hK K
 refine norm_ (a' := ?_) ?_ ?_
 rotate_left
 ·
  show Act.put _ (some 15) _ = _
  simp only [pk, i64_w, i32_w]
  rfl
 refine pure_ (i := 5) (N := some 16) (v := ?_) (a' := ?_) #[I, I, I, I, I, I] rfl rfl (by kernel_rfl) (fun _ _ _ h => h) (Or.inl ⟨by rfl, ?_⟩) ?_ ?_
 rotate_left
 ·
  intro w'
  go_simp
  with_reducible rfl
 rotate_left
 ·
  simp only [pk, i64_w, i32_w]
  rfl
 refine done_ (by kernel_rfl) ?_
 try go_wp2
 replace HO243 := As.mk (Kd.R_drew HO243.out)
 replace HO246 := As.mk (Kd.R_drew HO246.out)
 replace HO249 := As.mk (Kd.R_drew HO249.out)
 replace BK240 := As.mk (blk_drew BK240.out)
 replace BK252 := As.mk (blk_drew BK252.out)
 replace BK253 := As.mk (blk_drew BK253.out)
 replace HB := As.mk (below_drew1 HB.out)
 have p10 : 0 ≤ (a1_1 : Int) := of_decide_eq_true (by first | (with_reducible assumption) | assumption)
 have q10 : (a1_1 : Int) < ((t241.length : Int) : Int) := of_decide_eq_true (by first | (with_reducible assumption) | assumption)
 obtain ⟨go10, co10, eo10, gb10, gl10, cl10, HG10⟩ := Kd.R_form HO243.out (by omega)
 (first | cases eo10 | (injection eo10 with ea_ en_ ec_; (first | subst ea_ | (injection ea_ with ea_; subst ea_)); subst ec_; clear en_))
 have GB10 := As.mk gb10
 have GG10 := As.mk HG10
 clear gb10 gl10 HG10
 obtain ⟨ce10, hcl10, hM10, hcc10, hfr10⟩ := Kd.R_elem HO243.out z93 (a1_1 : Int) p10 q10
 obtain rfl := k93_openM hM10
 have hx10_0 : World.cell? _ ⟨go10, (a1_1 : Int).toNat * 2, none⟩ = some (.bool ((rd_T93 t241 a1_1).f0)) := hcc10 0 _ rfl
 have hx10_1 : World.cell? _ ⟨go10, (a1_1 : Int).toNat * 2 + 1, none⟩ = some (.int .i64 ((rd_T93 t241 a1_1).f1)) := hcc10 1 _ rfl
 have hf10_0 : World.frozen? _ ⟨go10, (a1_1 : Int).toNat * 2, none⟩ = false := hfr10 0
 have hf10_1 : World.frozen? _ ⟨go10, (a1_1 : Int).toNat * 2 + 1, none⟩ = false := hfr10 1
 clear hcl10 hcc10 hfr10 hM10
 replace p10 := eq_true p10
 replace q10 := eq_true q10
 obtain ⟨ce33, hcl33, hM33, hcc33, hfr33⟩ := Kd.R_elem HO243.out z93 (a1_1 : Int) (of_decide_eq_true (by first | (with_reducible assumption) | assumption)) (by have h_ : (a1_1 : Int) < ((t241.length : Int) : Int) := of_decide_eq_true (by first | (with_reducible assumption) | assumption); first | exact h_ | (have e_ := (Kd.R_reads' HO243.out).1; omega) | simpa using h_)
 obtain rfl := k93_openM hM33
 have HP33 := (Kd.R_seg HO243.out (a1_1 : Int) (of_decide_eq_true (by first | (with_reducible assumption) | assumption)) (by have h_ : (a1_1 : Int) < ((t241.length : Int) : Int) := of_decide_eq_true (by first | (with_reducible assumption) | assumption); first | exact h_ | (have e_ := (Kd.R_reads' HO243.out).1; omega) | simpa using h_) (seg := [.int .i64 a2]) (j := 1) hcl33 hcc33 (show 2 ≤ 2 from by decide) (x' := (⟨(rd_T93 t241 a1_1).f0, a2⟩ : S93)) (k93_mkM _ _ _ (⟨(rd_T93 t241 a1_1).f0, a2⟩ : S93) ) (fun _ hk => hk)).1
 rw [← Ny255.out] at HP33
 have HQ33 := As.mk HP33
 clear hcl33 hcc33 hfr33 hM33 HP33
 refine start_ (n := 10) (S := fun w' => w'.cell? ⟨gb252, 0, none⟩ = some (.slice (some ⟨go10, 0, none⟩) t241.length co19) ∧ w'.cell? ⟨gb252, 1, none⟩ = some (.slice Ao23 t244.length co23) ∧ w'.cell? ⟨gb252, 2, none⟩ = some (.slice Ao24 t247.length co24) ∧ w'.cell? ⟨gb252, 3, none⟩ = some (.int .i64 t250) ∧ w'.cell? ⟨gb252, 4, none⟩ = some (.int .i64 t251) ∧ w'.cell? ⟨gb253, 0, none⟩ = some (.int .i64 a1_0) ∧ w'.cell? ⟨gb253, 1, none⟩ = some (.int .i64 a1_1)) (ds := [9]) #[O, O, O, O, O, O, O, O, O, O] (by kernel_rfl) rfl rfl ⟨(blk_cell BK252.out 0).trans rfl, (blk_cell BK252.out 1).trans rfl, (blk_cell BK252.out 2).trans rfl, (blk_cell BK252.out 3).trans rfl, (blk_cell BK252.out 4).trans rfl, (blk_cell BK253.out 0).trans rfl, (blk_cell BK253.out 1).trans rfl⟩ (fun hHeld => ?_)
 generalize w31.drew = w32 at HO243 HO246 HO249 BK240 BK252 BK253 HB GG10 HQ33 hf10_0 hf10_1 hx10_0 hx10_1 hHeld ⊢
 refine pure_ (i := 0) (N := some 20) (v := ?_) (a' := ?_) #[I, O, O, O, O, O, O, O, O, O] rfl rfl (by kernel_rfl) (fun _ _ _ h => h) (Or.inl ⟨by rfl, ?_⟩) ?_ ?_
 rotate_left
 ·
  intro w'
  go_simp
  with_reducible rfl
 rotate_left
 ·
  simp only [pk, i64_w, i32_w]
  rfl
 refine pure_ (i := 1) (N := some 21) (v := ?_) (a' := ?_) #[I, I, O, O, O, O, O, O, O, O] rfl rfl (by kernel_rfl) (fun _ _ _ h => h) (Or.inl ⟨by rfl, ?_⟩) ?_ ?_
 rotate_left
 ·
  intro w'
  go_simp
  with_reducible rfl
 rotate_left
 ·
  simp only [pk, i64_w, i32_w]
  rfl
 refine pure_ (i := 2) (N := some 22) (v := ?_) (a' := ?_) #[I, I, I, O, O, O, O, O, O, O] rfl rfl (by kernel_rfl) (fun _ _ _ h => h) (Or.inl ⟨by rfl, ?_⟩) ?_ ?_
 rotate_left
 ·
  intro w'
  go_simp
  with_reducible rfl
 rotate_left
 ·
  simp only [pk, i64_w, i32_w]
  rfl
 refine pure_ (i := 4) (N := some 24) (v := ?_) (a' := ?_) #[I, I, I, O, I, O, O, O, O, O] rfl rfl (by kernel_rfl) (fun _ _ _ h => h) (Or.inl ⟨by rfl, ?_⟩) ?_ ?_
 rotate_left
 ·
  intro w'
  go_simp
  with_reducible rfl
 rotate_left
 ·
  simp only [pk, i64_w, i32_w]
  rfl
 refine pure_ (i := 6) (N := some 26) (v := ?_) (a' := ?_) #[I, I, I, O, I, O, I, O, O, O] rfl rfl (by kernel_rfl) (fun _ _ _ h => h) (Or.inl ⟨by rfl, ?_⟩) ?_ ?_
 rotate_left
 ·
  intro w'
  go_simp
  with_reducible rfl
 rotate_left
 ·
  simp only [pk, i64_w, i32_w]
  rfl
 refine take_ (i := 3) (N := some 23) (v := ?_) (a' := ?_) #[I, I, I, I, I, O, I, O, O, O] rfl rfl (by kernel_rfl) (fun _ _ _ h => h) (Or.inl ⟨by rfl, ?_⟩) hHeld ?_ ?_
 rotate_left
 ·
  rintro w' ⟨s0, s1, s2, s3, s4, s5, s6⟩
  go_simp
  with_reducible rfl
 rotate_left
 ·
  simp only [pk, i64_w, i32_w]
  rfl
 refine take_ (i := 5) (N := some 25) (v := ?_) (a' := ?_) #[I, I, I, I, I, I, I, O, O, O] rfl rfl (by kernel_rfl) (fun _ _ _ h => h) (Or.inl ⟨by rfl, ?_⟩) hHeld ?_ ?_
 rotate_left
 ·
  rintro w' ⟨s0, s1, s2, s3, s4, s5, s6⟩
  go_simp
  with_reducible rfl
 rotate_left
 ·
  simp only [pk, i64_w, i32_w]
  rfl
 refine pure_ (i := 7) (N := some 27) (v := ?_) (a' := ?_) #[I, I, I, I, I, I, I, I, O, O] rfl rfl (by kernel_rfl) (fun _ _ _ h => h) (Or.inl ⟨by rfl, ?_⟩) ?_ ?_
 rotate_left
 ·
  intro w'
  go_simp
  with_reducible rfl
 rotate_left
 ·
  simp only [pk, i64_w, i32_w]
  rfl
 refine pure_ (i := 8) (N := some 28) (v := ?_) (a' := ?_) #[I, I, I, I, I, I, I, I, I, O] rfl rfl (by kernel_rfl) (fun _ _ _ h => h) (Or.inl ⟨by rfl, ?_⟩) ?_ ?_
 rotate_left
 ·
  intro w'
  go_simp
  with_reducible rfl
 rotate_left
 ·
  simp only [pk, i64_w, i32_w]
  rfl
 refine last_ (i := 9) (N := none) #[I, I, I, I, I, I, I, I, I, I] rfl rfl (by kernel_rfl) (by decide) (fun K hK => ?_)
 refine skip_ (w1 := ?_) (by rfl) rfl ?_ ?_
 rotate_left
 ·
  go_simp
  rfl
 refine hK.out _ _ ?_
 clear hK K
 refine done_ (by kernel_rfl) ?_
 have n0_ : As (Kd.R k93 93 (w32.setCell ⟨go10, (a1_1 : Int).toNat * 2 + 1, none⟩ (.int .i64 a2)) w.heap.size (fun _ => True) (.slice (some ⟨go10, 0, none⟩) t241.length co19) y255) := ⟨by (with_reducible repeat (first | apply Kd.R_alloc | apply Kd.R_drewN | apply Kd.R_drew)); exact HQ33.out⟩
 have n1_ : As (Kd.R (Kd.int .i64) 3 (w32.setCell ⟨go10, (a1_1 : Int).toNat * 2 + 1, none⟩ (.int .i64 a2)) w.heap.size (fun k_ => some k_ ≠ (.slice Ao24 t247.length co24 : Value).ownBlock) (.slice Ao23 t244.length co23) t244) := ⟨by (with_reducible repeat (first | apply Kd.R_alloc | apply Kd.R_drewN | apply Kd.R_drew)); exact Kd.R_mono (Kd.R_far (p := ⟨go10, (a1_1 : Int).toNat * 2 + 1, none⟩) (Kd.R_types HO246.out GG10.out (by decide)) (fun _ hk => hk.2) (.int .i64 a2)) (fun _ hk => hk.1)⟩
 have n2_ : As (Kd.R (Kd.int .i64) 3 (w32.setCell ⟨go10, (a1_1 : Int).toNat * 2 + 1, none⟩ (.int .i64 a2)) w.heap.size (fun k_ => some k_ ≠ (.slice Ao23 t244.length co23 : Value).ownBlock) (.slice Ao24 t247.length co24) t247) := ⟨by (with_reducible repeat (first | apply Kd.R_alloc | apply Kd.R_drewN | apply Kd.R_drew)); exact Kd.R_mono (Kd.R_far (p := ⟨go10, (a1_1 : Int).toNat * 2 + 1, none⟩) (Kd.R_types HO249.out GG10.out (by decide)) (fun _ hk => hk.2) (.int .i64 a2)) (fun _ hk => hk.1)⟩
 have n3_ : As ((w32.setCell ⟨go10, (a1_1 : Int).toNat * 2 + 1, none⟩ (.int .i64 a2)).heap[gb240]? = some (.cells #[.slice none 0 0, .slice none 0 0, .slice none 0 0, .int .i64 0, .int .i64 0] 34 (0, 0))) := ⟨by refine pl ?_; refine blk_far ?_ (by have h_ := Kd.R_ne HO243.out BK240.out (by decide); intro e_; exact h_ (by rw [e_]; rfl)) _; exact bx BK240.out⟩
 have n4_ : As ((w32.setCell ⟨go10, (a1_1 : Int).toNat * 2 + 1, none⟩ (.int .i64 a2)).heap[gb252]? = some (.cells #[.slice (some ⟨go10, 0, none⟩) t241.length co19, .slice Ao23 t244.length co23, .slice Ao24 t247.length co24, .int .i64 t250, .int .i64 t251] 34 (0, 0))) := ⟨by refine pl ?_; refine blk_far ?_ (by have h_ := Kd.R_ne HO243.out BK252.out (by decide); intro e_; exact h_ (by rw [e_]; rfl)) _; exact bx BK252.out⟩
 have n5_ : As ((w32.setCell ⟨go10, (a1_1 : Int).toNat * 2 + 1, none⟩ (.int .i64 a2)).heap[gb253]? = some (.cells #[.int .i64 a1_0, .int .i64 a1_1] 37 (0, 0))) := ⟨by refine pl ?_; refine blk_far ?_ (by have h_ := Kd.R_ne HO243.out BK253.out (by decide); intro e_; exact h_ (by rw [e_]; rfl)) _; exact bx BK253.out⟩
 have n6_ : As (Below w.heap.size w (w32.setCell ⟨go10, (a1_1 : Int).toNat * 2 + 1, none⟩ (.int .i64 a2))) := ⟨be w⟩
 (try clear HO243)
 (try clear HO246)
 (try clear HO249)
 (try clear BK240)
 (try clear BK252)
 (try clear BK253)
 (try clear HB)
 generalize (w32.setCell ⟨go10, (a1_1 : Int).toNat * 2 + 1, none⟩ (.int .i64 a2)) = w34 at n0_ n1_ n2_ n3_ n4_ n5_ n6_ ⊢
 have HO243 := n0_
 have HO246 := n1_
 have HO249 := n2_
 have BK240 := n3_
 have BK252 := n4_
 have BK253 := n5_
 have HB := n6_
 clear n0_ n1_ n2_ n3_ n4_ n5_ n6_
 obtain ⟨hcz35_0, hcz35_1, hcz35_2, hcz35_3, hcz35_4, hfz35_0, hfz35_1, hfz35_2, hfz35_3, hfz35_4⟩ := cl5 BK252.out
 obtain ⟨hcz36_0, hcz36_1, hcz36_2, hcz36_3, hcz36_4, hfz36_0, hfz36_1, hfz36_2, hfz36_3, hfz36_4⟩ := cl5 BK240.out
 try go_wp2_with (first | (with_reducible show bodyPost Try.prog Try.f62 _ _ _ _; (try simp only [Exit.inBlock, Exit.then]); refine bodyPost_end (results_none rfl _ _ _) rfl ?_; simp only []; go_at_K; (try ((first | refine lay_top (by go_cell_look) ?_ | refine lay_top1 (by go_cell_look) ?_ | refine lay_top2 (by go_cell_look) ?_); intro hlay_))))
 refine bodyPost_ret (results_cell_row rfl _ _ gb240 34 #[.slice (some ⟨go10, 0, none⟩) t241.length co19, .slice Ao23 t244.length co23, .slice Ao24 t247.length co24, .int .i64 t250, .int .i64 t251] (0, 0) _ rfl (by refine pl ?_; refine blk_put (cs := #[.slice (some ⟨go10, 0, none⟩) t241.length co19, .slice Ao23 t244.length co23, .slice Ao24 t247.length co24, .int .i64 t250, .int .i64 0]) ?_ 4 _ rfl; refine pl ?_; refine blk_put (cs := #[.slice (some ⟨go10, 0, none⟩) t241.length co19, .slice Ao23 t244.length co23, .slice Ao24 t247.length co24, .int .i64 0, .int .i64 0]) ?_ 3 _ rfl; refine pl ?_; refine blk_put (cs := #[.slice (some ⟨go10, 0, none⟩) t241.length co19, .slice Ao23 t244.length co23, .slice none 0 0, .int .i64 0, .int .i64 0]) ?_ 2 _ rfl; refine pl ?_; refine blk_put (cs := #[.slice (some ⟨go10, 0, none⟩) t241.length co19, .slice none 0 0, .slice none 0 0, .int .i64 0, .int .i64 0]) ?_ 1 _ rfl; refine pl ?_; refine blk_put (cs := #[.slice none 0 0, .slice none 0 0, .slice none 0 0, .int .i64 0, .int .i64 0]) ?_ 0 _ rfl; exact bx BK240.out) Try.underlying34 rfl (by kernel_rfl)) rfl ?_
 exact ⟨_, _, _, by first | rfl | (simp [errW_none, errW_some] <;> rfl) | (simp [*, errW_none, errW_some] <;> rfl), by (with_reducible repeat (first | apply Kd.R_alloc | apply Kd.R_drewN | apply Kd.R_drew)); exact Kd.R_mono (Kd.R_far (p := ⟨gb240, 4, none⟩) (Kd.R_far (p := ⟨gb240, 3, none⟩) (Kd.R_far (p := ⟨gb240, 2, none⟩) (Kd.R_far (p := ⟨gb240, 1, none⟩) (Kd.R_far (p := ⟨gb240, 0, none⟩) (Kd.R_types HO243.out BK240.out (by decide)) (fun _ hk => hk.2) (.slice (some ⟨go10, 0, none⟩) t241.length co19)) (fun _ hk => hk.2) (.slice Ao23 t244.length co23)) (fun _ hk => hk.2) (.slice Ao24 t247.length co24)) (fun _ hk => hk.2) (.int .i64 t250)) (fun _ hk => hk.2) (.int .i64 t251)) (fun _ hk => trivial), by (with_reducible repeat (first | apply Kd.R_alloc | apply Kd.R_drewN | apply Kd.R_drew)); exact Kd.R_mono (Kd.R_far (p := ⟨gb240, 4, none⟩) (Kd.R_far (p := ⟨gb240, 3, none⟩) (Kd.R_far (p := ⟨gb240, 2, none⟩) (Kd.R_far (p := ⟨gb240, 1, none⟩) (Kd.R_far (p := ⟨gb240, 0, none⟩) (Kd.R_types HO246.out BK240.out (by decide)) (fun _ hk => hk.2) (.slice (some ⟨go10, 0, none⟩) t241.length co19)) (fun _ hk => hk.2) (.slice Ao23 t244.length co23)) (fun _ hk => hk.2) (.slice Ao24 t247.length co24)) (fun _ hk => hk.2) (.int .i64 t250)) (fun _ hk => hk.2) (.int .i64 t251)) (fun _ hk => hk.1), by (with_reducible repeat (first | apply Kd.R_alloc | apply Kd.R_drewN | apply Kd.R_drew)); exact Kd.R_mono (Kd.R_far (p := ⟨gb240, 4, none⟩) (Kd.R_far (p := ⟨gb240, 3, none⟩) (Kd.R_far (p := ⟨gb240, 2, none⟩) (Kd.R_far (p := ⟨gb240, 1, none⟩) (Kd.R_far (p := ⟨gb240, 0, none⟩) (Kd.R_types HO249.out BK240.out (by decide)) (fun _ hk => hk.2) (.slice (some ⟨go10, 0, none⟩) t241.length co19)) (fun _ hk => hk.2) (.slice Ao23 t244.length co23)) (fun _ hk => hk.2) (.slice Ao24 t247.length co24)) (fun _ hk => hk.2) (.int .i64 t250)) (fun _ hk => hk.2) (.int .i64 t251)) (fun _ hk => hk.1), be w⟩
/-! ### laws_FnExactWritten: function 7 -/
mutual
def laws_FnExactWritten.j0 : Nat → Int → List (S98) → List Int → List Int → Int → Int → Int → Int → Option (Bool)
 | 0, _, _, _, _, _, _, _, _ => none
 | k + 1, x2, x257000, x257001, x257002, x257003, x257004, x258000, x258001 => (laws_toMemory.f k x257000 x257001 x257002 x257003 x257004).bind fun bt259 => ((laws_toValue.f x258000 x258001).bind fun bt270 => ((spec_Written.f bt259.1 bt259.2.1 bt259.2.2.1 bt259.2.2.2.1 bt259.2.2.2.2 bt270.1 bt270.2 x2).bind fun bt272 => ((laws_toMemory.f k x257000 x257001 x257002 x257003 x257004).bind fun bt284 => ((laws_toValue.f x258000 x258001).bind fun bt296 => ((impl_Written.f bt284.1 bt284.2.1 bt284.2.2.1 bt284.2.2.2.1 bt284.2.2.2.2 bt296.1 bt296.2 x2).bind fun bt298 => ((laws_eqMemory.f k bt298.1 bt298.2.1 bt298.2.2.1 bt298.2.2.2.1 bt298.2.2.2.2 bt272.1 bt272.2.1 bt272.2.2.1 bt272.2.2.2.1 bt272.2.2.2.2).bind fun t310 => (if t310 = true then (laws_FnExactWritten.j1 k x2 x257000 x257001 x257002 x257003 x257004 x258000 x258001 bt272.1 bt272.2.1 bt272.2.2.1 bt272.2.2.2.1 bt272.2.2.2.2 bt284.1 bt284.2.1 bt284.2.2.1 bt284.2.2.2.1 bt284.2.2.2.2 bt298.1 bt298.2.1 bt298.2.2.1 bt298.2.2.2.1 bt298.2.2.2.2) else (some false))))))))
def laws_FnExactWritten.j1 : Nat → Int → List (S98) → List Int → List Int → Int → Int → Int → Int → List (S93) → List Int → List Int → Int → Int → List (S93) → List Int → List Int → Int → Int → List (S93) → List Int → List Int → Int → Int → Option (Bool)
 | 0, _, _, _, _, _, _, _, _, _, _, _, _, _, _, _, _, _, _, _, _, _, _, _ => none
 | k + 1, x2, x257000, x257001, x257002, x257003, x257004, x258000, x258001, x284000, x284001, x284002, x284003, x284004, x296000, x296001, x296002, x296003, x296004, x310000, x310001, x310002, x310003, x310004 => (laws_toMemory.f k x257000 x257001 x257002 x257003 x257004).bind fun bt311 => ((laws_eqMemory.f k x296000 x296001 x296002 x296003 x296004 bt311.1 bt311.2.1 bt311.2.2.1 bt311.2.2.2.1 bt311.2.2.2.2).bind fun t322 => (if t322 = true then (laws_FnExactWritten.j2 k x2 x257000 x257001 x257002 x257003 x257004 x258000 x258001 x284000 x284001 x284002 x284003 x284004 x296000 x296001 x296002 x296003 x296004 x310000 x310001 x310002 x310003 x310004) else (some false)))
def laws_FnExactWritten.j2 : Nat → Int → List (S98) → List Int → List Int → Int → Int → Int → Int → List (S93) → List Int → List Int → Int → Int → List (S93) → List Int → List Int → Int → Int → List (S93) → List Int → List Int → Int → Int → Option (Bool)
 | 0, _, _, _, _, _, _, _, _, _, _, _, _, _, _, _, _, _, _, _, _, _, _, _ => none
 | k + 1, x2, x257000, x257001, x257002, x257003, x257004, x258000, x258001, x284000, x284001, x284002, x284003, x284004, x296000, x296001, x296002, x296003, x296004, x310000, x310001, x310002, x310003, x310004 => (laws_markMemory.f k x296000 x296001 x296002 x296003 x296004 1).bind fun bt323 => (if bt323.1 < 0 then (laws_FnExactWritten.j3 k x2 true x257000 x257001 x257002 x257003 x257004 x258000 x258001 x284000 x284001 x284002 x284003 x284004 x310000 x310001 x310002 x310003 x310004) else ((laws_eqMemory.f k x310000 x310001 x310002 x310003 x310004 x284000 x284001 x284002 x284003 x284004).bind fun t327 => (laws_FnExactWritten.j3 k x2 (!t327) x257000 x257001 x257002 x257003 x257004 x258000 x258001 x284000 x284001 x284002 x284003 x284004 x310000 x310001 x310002 x310003 x310004)))
def laws_FnExactWritten.j3 : Nat → Int → Bool → List (S98) → List Int → List Int → Int → Int → Int → Int → List (S93) → List Int → List Int → Int → Int → List (S93) → List Int → List Int → Int → Int → Option (Bool)
 | 0, _, _, _, _, _, _, _, _, _, _, _, _, _, _, _, _, _, _, _ => none
 | k + 1, x2, x52, x257000, x257001, x257002, x257003, x257004, x258000, x258001, x284000, x284001, x284002, x284003, x284004, x310000, x310001, x310002, x310003, x310004 => if x52 = true then (some false) else (laws_FnExactWritten.j4 k x2 x257000 x257001 x257002 x257003 x257004 x258000 x258001 x284000 x284001 x284002 x284003 x284004 x310000 x310001 x310002 x310003 x310004)
def laws_FnExactWritten.j4 : Nat → Int → List (S98) → List Int → List Int → Int → Int → Int → Int → List (S93) → List Int → List Int → Int → Int → List (S93) → List Int → List Int → Int → Int → Option (Bool)
 | 0, _, _, _, _, _, _, _, _, _, _, _, _, _, _, _, _, _, _ => none
 | k + 1, x2, x257000, x257001, x257002, x257003, x257004, x258000, x258001, x284000, x284001, x284002, x284003, x284004, x310000, x310001, x310002, x310003, x310004 => (laws_markMemory.f k x310000 x310001 x310002 x310003 x310004 1).bind fun bt328 => ((laws_heldMemory.f k bt328.2.1 bt328.2.2.1 bt328.2.2.2 x310003 x310004 1).bind fun t332 => (if t332 < 0 then (some false) else (laws_FnExactWritten.j5 k x2 bt328.1 t332 x257000 x257001 x257002 x257003 x257004 x258000 x258001 x284000 x284001 x284002 x284003 x284004 bt328.2.1 bt328.2.2.1 bt328.2.2.2 x310003 x310004)))
def laws_FnExactWritten.j5 : Nat → Int → Int → Int → List (S98) → List Int → List Int → Int → Int → Int → Int → List (S93) → List Int → List Int → Int → Int → List (S93) → List Int → List Int → Int → Int → Option (Bool)
 | 0, _, _, _, _, _, _, _, _, _, _, _, _, _, _, _, _, _, _, _, _ => none
 | k + 1, x2, x12, x13, x257000, x257001, x257002, x257003, x257004, x258000, x258001, x284000, x284001, x284002, x284003, x284004, x310000, x310001, x310002, x310003, x310004 => if x13 = x12 then (laws_FnExactWritten.j6 k x2 x12 x257000 x257001 x257002 x257003 x257004 x258000 x258001 x284000 x284001 x284002 x284003 x284004 x310000 x310001 x310002 x310003 x310004) else (some false)
def laws_FnExactWritten.j6 : Nat → Int → Int → List (S98) → List Int → List Int → Int → Int → Int → Int → List (S93) → List Int → List Int → Int → Int → List (S93) → List Int → List Int → Int → Int → Option (Bool)
 | 0, _, _, _, _, _, _, _, _, _, _, _, _, _, _, _, _, _, _, _ => none
 | k + 1, x2, x12, x257000, x257001, x257002, x257003, x257004, x258000, x258001, x284000, x284001, x284002, x284003, x284004, x310000, x310001, x310002, x310003, x310004 => (laws_toMemory.f k x257000 x257001 x257002 x257003 x257004).bind fun bt333 => ((laws_toValue.f x258000 x258001).bind fun bt344 => ((impl_Written.f bt333.1 bt333.2.1 bt333.2.2.1 bt333.2.2.2.1 bt333.2.2.2.2 bt344.1 bt344.2 x2).bind fun bt346 => ((laws_eqMemory.f k bt346.1 bt346.2.1 bt346.2.2.1 bt346.2.2.2.1 bt346.2.2.2.2 x284000 x284001 x284002 x284003 x284004).bind fun t358 => (if t358 = true then (laws_FnExactWritten.j7 k x12 x310000 x310001 x310002 x310003 x310004) else (some false)))))
def laws_FnExactWritten.j7 : Nat → Int → List (S93) → List Int → List Int → Int → Int → Option (Bool)
 | 0, _, _, _, _, _, _ => none
 | k + 1, x12, x310000, x310001, x310002, x310003, x310004 => (laws_heldMemory.f k x310000 x310001 x310002 x310003 x310004 1).bind fun t359 => (if t359 < 0 then (some false) else (if t359 = x12 then (some true) else (some false)))
end
def laws_FnExactWritten.f (k : Nat) (l0_0 : List (S98)) (l0_1 : List Int) (l0_2 : List Int) (a0_3 : Int) (a0_4 : Int) (a1_0 : Int) (a1_1 : Int) (a2 : Int) : Option (Bool) := (laws_szMemory.f l0_0 l0_1 l0_2 a0_3 a0_4 1048576).bind fun t258 => (if t258 < 0 then (some true) else (laws_FnExactWritten.j0 k a2 l0_0 l0_1 l0_2 a0_3 a0_4 a1_0 a1_1))
theorem laws_FnExactWritten.mono_l : ∀ k, (∀ y0 y1 y2 y3 y4 y5 y6 y7, LeO (laws_FnExactWritten.j0 k y0 y1 y2 y3 y4 y5 y6 y7) (laws_FnExactWritten.j0 (k + 1) y0 y1 y2 y3 y4 y5 y6 y7)) ∧ (∀ y0 y1 y2 y3 y4 y5 y6 y7 y8 y9 y10 y11 y12 y13 y14 y15 y16 y17 y18 y19 y20 y21 y22, LeO (laws_FnExactWritten.j1 k y0 y1 y2 y3 y4 y5 y6 y7 y8 y9 y10 y11 y12 y13 y14 y15 y16 y17 y18 y19 y20 y21 y22) (laws_FnExactWritten.j1 (k + 1) y0 y1 y2 y3 y4 y5 y6 y7 y8 y9 y10 y11 y12 y13 y14 y15 y16 y17 y18 y19 y20 y21 y22)) ∧ (∀ y0 y1 y2 y3 y4 y5 y6 y7 y8 y9 y10 y11 y12 y13 y14 y15 y16 y17 y18 y19 y20 y21 y22, LeO (laws_FnExactWritten.j2 k y0 y1 y2 y3 y4 y5 y6 y7 y8 y9 y10 y11 y12 y13 y14 y15 y16 y17 y18 y19 y20 y21 y22) (laws_FnExactWritten.j2 (k + 1) y0 y1 y2 y3 y4 y5 y6 y7 y8 y9 y10 y11 y12 y13 y14 y15 y16 y17 y18 y19 y20 y21 y22)) ∧ (∀ y0 y1 y2 y3 y4 y5 y6 y7 y8 y9 y10 y11 y12 y13 y14 y15 y16 y17 y18, LeO (laws_FnExactWritten.j3 k y0 y1 y2 y3 y4 y5 y6 y7 y8 y9 y10 y11 y12 y13 y14 y15 y16 y17 y18) (laws_FnExactWritten.j3 (k + 1) y0 y1 y2 y3 y4 y5 y6 y7 y8 y9 y10 y11 y12 y13 y14 y15 y16 y17 y18)) ∧ (∀ y0 y1 y2 y3 y4 y5 y6 y7 y8 y9 y10 y11 y12 y13 y14 y15 y16 y17, LeO (laws_FnExactWritten.j4 k y0 y1 y2 y3 y4 y5 y6 y7 y8 y9 y10 y11 y12 y13 y14 y15 y16 y17) (laws_FnExactWritten.j4 (k + 1) y0 y1 y2 y3 y4 y5 y6 y7 y8 y9 y10 y11 y12 y13 y14 y15 y16 y17)) ∧ (∀ y0 y1 y2 y3 y4 y5 y6 y7 y8 y9 y10 y11 y12 y13 y14 y15 y16 y17 y18 y19, LeO (laws_FnExactWritten.j5 k y0 y1 y2 y3 y4 y5 y6 y7 y8 y9 y10 y11 y12 y13 y14 y15 y16 y17 y18 y19) (laws_FnExactWritten.j5 (k + 1) y0 y1 y2 y3 y4 y5 y6 y7 y8 y9 y10 y11 y12 y13 y14 y15 y16 y17 y18 y19)) ∧ (∀ y0 y1 y2 y3 y4 y5 y6 y7 y8 y9 y10 y11 y12 y13 y14 y15 y16 y17 y18, LeO (laws_FnExactWritten.j6 k y0 y1 y2 y3 y4 y5 y6 y7 y8 y9 y10 y11 y12 y13 y14 y15 y16 y17 y18) (laws_FnExactWritten.j6 (k + 1) y0 y1 y2 y3 y4 y5 y6 y7 y8 y9 y10 y11 y12 y13 y14 y15 y16 y17 y18)) ∧ (∀ y0 y1 y2 y3 y4 y5, LeO (laws_FnExactWritten.j7 k y0 y1 y2 y3 y4 y5) (laws_FnExactWritten.j7 (k + 1) y0 y1 y2 y3 y4 y5))
 | 0 => ⟨fun _ _ _ _ _ _ _ _ r h => by simp [laws_FnExactWritten.j0] at h, fun _ _ _ _ _ _ _ _ _ _ _ _ _ _ _ _ _ _ _ _ _ _ _ r h => by simp [laws_FnExactWritten.j1] at h, fun _ _ _ _ _ _ _ _ _ _ _ _ _ _ _ _ _ _ _ _ _ _ _ r h => by simp [laws_FnExactWritten.j2] at h, fun _ _ _ _ _ _ _ _ _ _ _ _ _ _ _ _ _ _ _ r h => by simp [laws_FnExactWritten.j3] at h, fun _ _ _ _ _ _ _ _ _ _ _ _ _ _ _ _ _ _ r h => by simp [laws_FnExactWritten.j4] at h, fun _ _ _ _ _ _ _ _ _ _ _ _ _ _ _ _ _ _ _ _ r h => by simp [laws_FnExactWritten.j5] at h, fun _ _ _ _ _ _ _ _ _ _ _ _ _ _ _ _ _ _ _ r h => by simp [laws_FnExactWritten.j6] at h, fun _ _ _ _ _ _ r h => by simp [laws_FnExactWritten.j7] at h⟩
 | k + 1 => by
  obtain ⟨ih0, ih1, ih2, ih3, ih4, ih5, ih6, ih7⟩ := laws_FnExactWritten.mono_l k
  refine ⟨?_, ?_, ?_, ?_, ?_, ?_, ?_, ?_⟩
  ·
   intro y0 y1 y2 y3 y4 y5 y6 y7
   unfold laws_FnExactWritten.j0
   with_reducible repeat' first | exact ih0 _ _ _ _ _ _ _ _ | exact ih1 _ _ _ _ _ _ _ _ _ _ _ _ _ _ _ _ _ _ _ _ _ _ _ | exact ih2 _ _ _ _ _ _ _ _ _ _ _ _ _ _ _ _ _ _ _ _ _ _ _ | exact ih3 _ _ _ _ _ _ _ _ _ _ _ _ _ _ _ _ _ _ _ | exact ih4 _ _ _ _ _ _ _ _ _ _ _ _ _ _ _ _ _ _ | exact ih5 _ _ _ _ _ _ _ _ _ _ _ _ _ _ _ _ _ _ _ _ | exact ih6 _ _ _ _ _ _ _ _ _ _ _ _ _ _ _ _ _ _ _ | exact ih7 _ _ _ _ _ _ | exact laws_eqMemory.mono _ _ _ _ _ _ _ _ _ _ _ | exact laws_heldMemory.mono _ _ _ _ _ _ _ | exact laws_markMemory.mono _ _ _ _ _ _ _ | exact laws_toMemory.mono _ _ _ _ _ _ | exact LeO.refl _ | exact LeO.none _ | refine LeO.ite ?_ ?_ | refine LeO.bind ?_ (fun _ => ?_)
  ·
   intro y0 y1 y2 y3 y4 y5 y6 y7 y8 y9 y10 y11 y12 y13 y14 y15 y16 y17 y18 y19 y20 y21 y22
   unfold laws_FnExactWritten.j1
   with_reducible repeat' first | exact ih0 _ _ _ _ _ _ _ _ | exact ih1 _ _ _ _ _ _ _ _ _ _ _ _ _ _ _ _ _ _ _ _ _ _ _ | exact ih2 _ _ _ _ _ _ _ _ _ _ _ _ _ _ _ _ _ _ _ _ _ _ _ | exact ih3 _ _ _ _ _ _ _ _ _ _ _ _ _ _ _ _ _ _ _ | exact ih4 _ _ _ _ _ _ _ _ _ _ _ _ _ _ _ _ _ _ | exact ih5 _ _ _ _ _ _ _ _ _ _ _ _ _ _ _ _ _ _ _ _ | exact ih6 _ _ _ _ _ _ _ _ _ _ _ _ _ _ _ _ _ _ _ | exact ih7 _ _ _ _ _ _ | exact laws_eqMemory.mono _ _ _ _ _ _ _ _ _ _ _ | exact laws_heldMemory.mono _ _ _ _ _ _ _ | exact laws_markMemory.mono _ _ _ _ _ _ _ | exact laws_toMemory.mono _ _ _ _ _ _ | exact LeO.refl _ | exact LeO.none _ | refine LeO.ite ?_ ?_ | refine LeO.bind ?_ (fun _ => ?_)
  ·
   intro y0 y1 y2 y3 y4 y5 y6 y7 y8 y9 y10 y11 y12 y13 y14 y15 y16 y17 y18 y19 y20 y21 y22
   unfold laws_FnExactWritten.j2
   with_reducible repeat' first | exact ih0 _ _ _ _ _ _ _ _ | exact ih1 _ _ _ _ _ _ _ _ _ _ _ _ _ _ _ _ _ _ _ _ _ _ _ | exact ih2 _ _ _ _ _ _ _ _ _ _ _ _ _ _ _ _ _ _ _ _ _ _ _ | exact ih3 _ _ _ _ _ _ _ _ _ _ _ _ _ _ _ _ _ _ _ | exact ih4 _ _ _ _ _ _ _ _ _ _ _ _ _ _ _ _ _ _ | exact ih5 _ _ _ _ _ _ _ _ _ _ _ _ _ _ _ _ _ _ _ _ | exact ih6 _ _ _ _ _ _ _ _ _ _ _ _ _ _ _ _ _ _ _ | exact ih7 _ _ _ _ _ _ | exact laws_eqMemory.mono _ _ _ _ _ _ _ _ _ _ _ | exact laws_heldMemory.mono _ _ _ _ _ _ _ | exact laws_markMemory.mono _ _ _ _ _ _ _ | exact laws_toMemory.mono _ _ _ _ _ _ | exact LeO.refl _ | exact LeO.none _ | refine LeO.ite ?_ ?_ | refine LeO.bind ?_ (fun _ => ?_)
  ·
   intro y0 y1 y2 y3 y4 y5 y6 y7 y8 y9 y10 y11 y12 y13 y14 y15 y16 y17 y18
   unfold laws_FnExactWritten.j3
   with_reducible repeat' first | exact ih0 _ _ _ _ _ _ _ _ | exact ih1 _ _ _ _ _ _ _ _ _ _ _ _ _ _ _ _ _ _ _ _ _ _ _ | exact ih2 _ _ _ _ _ _ _ _ _ _ _ _ _ _ _ _ _ _ _ _ _ _ _ | exact ih3 _ _ _ _ _ _ _ _ _ _ _ _ _ _ _ _ _ _ _ | exact ih4 _ _ _ _ _ _ _ _ _ _ _ _ _ _ _ _ _ _ | exact ih5 _ _ _ _ _ _ _ _ _ _ _ _ _ _ _ _ _ _ _ _ | exact ih6 _ _ _ _ _ _ _ _ _ _ _ _ _ _ _ _ _ _ _ | exact ih7 _ _ _ _ _ _ | exact laws_eqMemory.mono _ _ _ _ _ _ _ _ _ _ _ | exact laws_heldMemory.mono _ _ _ _ _ _ _ | exact laws_markMemory.mono _ _ _ _ _ _ _ | exact laws_toMemory.mono _ _ _ _ _ _ | exact LeO.refl _ | exact LeO.none _ | refine LeO.ite ?_ ?_ | refine LeO.bind ?_ (fun _ => ?_)
  ·
   intro y0 y1 y2 y3 y4 y5 y6 y7 y8 y9 y10 y11 y12 y13 y14 y15 y16 y17
   unfold laws_FnExactWritten.j4
   with_reducible repeat' first | exact ih0 _ _ _ _ _ _ _ _ | exact ih1 _ _ _ _ _ _ _ _ _ _ _ _ _ _ _ _ _ _ _ _ _ _ _ | exact ih2 _ _ _ _ _ _ _ _ _ _ _ _ _ _ _ _ _ _ _ _ _ _ _ | exact ih3 _ _ _ _ _ _ _ _ _ _ _ _ _ _ _ _ _ _ _ | exact ih4 _ _ _ _ _ _ _ _ _ _ _ _ _ _ _ _ _ _ | exact ih5 _ _ _ _ _ _ _ _ _ _ _ _ _ _ _ _ _ _ _ _ | exact ih6 _ _ _ _ _ _ _ _ _ _ _ _ _ _ _ _ _ _ _ | exact ih7 _ _ _ _ _ _ | exact laws_eqMemory.mono _ _ _ _ _ _ _ _ _ _ _ | exact laws_heldMemory.mono _ _ _ _ _ _ _ | exact laws_markMemory.mono _ _ _ _ _ _ _ | exact laws_toMemory.mono _ _ _ _ _ _ | exact LeO.refl _ | exact LeO.none _ | refine LeO.ite ?_ ?_ | refine LeO.bind ?_ (fun _ => ?_)
  ·
   intro y0 y1 y2 y3 y4 y5 y6 y7 y8 y9 y10 y11 y12 y13 y14 y15 y16 y17 y18 y19
   unfold laws_FnExactWritten.j5
   with_reducible repeat' first | exact ih0 _ _ _ _ _ _ _ _ | exact ih1 _ _ _ _ _ _ _ _ _ _ _ _ _ _ _ _ _ _ _ _ _ _ _ | exact ih2 _ _ _ _ _ _ _ _ _ _ _ _ _ _ _ _ _ _ _ _ _ _ _ | exact ih3 _ _ _ _ _ _ _ _ _ _ _ _ _ _ _ _ _ _ _ | exact ih4 _ _ _ _ _ _ _ _ _ _ _ _ _ _ _ _ _ _ | exact ih5 _ _ _ _ _ _ _ _ _ _ _ _ _ _ _ _ _ _ _ _ | exact ih6 _ _ _ _ _ _ _ _ _ _ _ _ _ _ _ _ _ _ _ | exact ih7 _ _ _ _ _ _ | exact laws_eqMemory.mono _ _ _ _ _ _ _ _ _ _ _ | exact laws_heldMemory.mono _ _ _ _ _ _ _ | exact laws_markMemory.mono _ _ _ _ _ _ _ | exact laws_toMemory.mono _ _ _ _ _ _ | exact LeO.refl _ | exact LeO.none _ | refine LeO.ite ?_ ?_ | refine LeO.bind ?_ (fun _ => ?_)
  ·
   intro y0 y1 y2 y3 y4 y5 y6 y7 y8 y9 y10 y11 y12 y13 y14 y15 y16 y17 y18
   unfold laws_FnExactWritten.j6
   with_reducible repeat' first | exact ih0 _ _ _ _ _ _ _ _ | exact ih1 _ _ _ _ _ _ _ _ _ _ _ _ _ _ _ _ _ _ _ _ _ _ _ | exact ih2 _ _ _ _ _ _ _ _ _ _ _ _ _ _ _ _ _ _ _ _ _ _ _ | exact ih3 _ _ _ _ _ _ _ _ _ _ _ _ _ _ _ _ _ _ _ | exact ih4 _ _ _ _ _ _ _ _ _ _ _ _ _ _ _ _ _ _ | exact ih5 _ _ _ _ _ _ _ _ _ _ _ _ _ _ _ _ _ _ _ _ | exact ih6 _ _ _ _ _ _ _ _ _ _ _ _ _ _ _ _ _ _ _ | exact ih7 _ _ _ _ _ _ | exact laws_eqMemory.mono _ _ _ _ _ _ _ _ _ _ _ | exact laws_heldMemory.mono _ _ _ _ _ _ _ | exact laws_markMemory.mono _ _ _ _ _ _ _ | exact laws_toMemory.mono _ _ _ _ _ _ | exact LeO.refl _ | exact LeO.none _ | refine LeO.ite ?_ ?_ | refine LeO.bind ?_ (fun _ => ?_)
  ·
   intro y0 y1 y2 y3 y4 y5
   unfold laws_FnExactWritten.j7
   with_reducible repeat' first | exact ih0 _ _ _ _ _ _ _ _ | exact ih1 _ _ _ _ _ _ _ _ _ _ _ _ _ _ _ _ _ _ _ _ _ _ _ | exact ih2 _ _ _ _ _ _ _ _ _ _ _ _ _ _ _ _ _ _ _ _ _ _ _ | exact ih3 _ _ _ _ _ _ _ _ _ _ _ _ _ _ _ _ _ _ _ | exact ih4 _ _ _ _ _ _ _ _ _ _ _ _ _ _ _ _ _ _ | exact ih5 _ _ _ _ _ _ _ _ _ _ _ _ _ _ _ _ _ _ _ _ | exact ih6 _ _ _ _ _ _ _ _ _ _ _ _ _ _ _ _ _ _ _ | exact ih7 _ _ _ _ _ _ | exact laws_eqMemory.mono _ _ _ _ _ _ _ _ _ _ _ | exact laws_heldMemory.mono _ _ _ _ _ _ _ | exact laws_markMemory.mono _ _ _ _ _ _ _ | exact laws_toMemory.mono _ _ _ _ _ _ | exact LeO.refl _ | exact LeO.none _ | refine LeO.ite ?_ ?_ | refine LeO.bind ?_ (fun _ => ?_)
theorem laws_FnExactWritten.mono : ∀ a0 a1 a2 a3 a4 a5 a6 a7 k, LeO (laws_FnExactWritten.f k a0 a1 a2 a3 a4 a5 a6 a7) (laws_FnExactWritten.f (k + 1) a0 a1 a2 a3 a4 a5 a6 a7) := by
 intro a0 a1 a2 a3 a4 a5 a6 a7 k
 obtain ⟨ih0, ih1, ih2, ih3, ih4, ih5, ih6, ih7⟩ := laws_FnExactWritten.mono_l k
 unfold laws_FnExactWritten.f
 with_reducible repeat' first | exact ih0 _ _ _ _ _ _ _ _ | exact ih1 _ _ _ _ _ _ _ _ _ _ _ _ _ _ _ _ _ _ _ _ _ _ _ | exact ih2 _ _ _ _ _ _ _ _ _ _ _ _ _ _ _ _ _ _ _ _ _ _ _ | exact ih3 _ _ _ _ _ _ _ _ _ _ _ _ _ _ _ _ _ _ _ | exact ih4 _ _ _ _ _ _ _ _ _ _ _ _ _ _ _ _ _ _ | exact ih5 _ _ _ _ _ _ _ _ _ _ _ _ _ _ _ _ _ _ _ _ | exact ih6 _ _ _ _ _ _ _ _ _ _ _ _ _ _ _ _ _ _ _ | exact ih7 _ _ _ _ _ _ | exact laws_eqMemory.mono _ _ _ _ _ _ _ _ _ _ _ | exact laws_heldMemory.mono _ _ _ _ _ _ _ | exact laws_markMemory.mono _ _ _ _ _ _ _ | exact laws_toMemory.mono _ _ _ _ _ _ | exact LeO.refl _ | exact LeO.none _ | refine LeO.ite ?_ ?_ | refine LeO.bind ?_ (fun _ => ?_)

end Go.Proofs.Ytnlhjblfemgggaa.PFnExactWritten
