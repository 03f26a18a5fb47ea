/- Written by a program of this session (a turned copy of the kit's print): a contract for each Go function. No condition beside those in each statement. -/
import Derived.Test.YtnlhjblfemgggaaPFnExactLookedx0
import Derived.Test.YtnlhjblfemgggaaPFnExactLookedx1
import Derived.Test.YtnlhjblfemgggaaPFnExactLookedx2
import Derived.Test.YtnlhjblfemgggaaPFnExactLookedx3
namespace Go.Proofs.Ytnlhjblfemgggaa.PFnExactLooked
open Go.RowKit Go.Proofs.YtnlhjblfemgggaaW.PrintWords Go.Proofs.YtnlhjblfemgggaaW.PrintLast Go.Proofs.YtnlhjblfemgggaaW.PrintMore
attribute [local go_sem] max2_int min2_int max_two min_two max_three min_three max_four min_four   -- for this text's walks alone
set_option linter.unusedVariables false
set_option linter.unusedSimpArgs false

/-! ### spec_Looked: function 33 -/
def spec_Looked.f (l0_0 : List (S93)) (l0_1 : List Int) (l0_2 : List Int) (a0_3 : Int) (a0_4 : Int) (a1_0 : Int) (a1_1 : Int) : Option ((List (S93)) × List Int × List Int × Int × Int × Int) := (spec_l09Copy.f l0_0 l0_1 l0_2 a0_3 a0_4).bind fun bt243 => (if bt243.2.2.2.2 = 0 then ((spec_l09Live.f bt243.1 bt243.2.1 bt243.2.2.1 bt243.2.2.2.1 bt243.2.2.2.2 a1_0 a1_1).bind fun t256 => (if t256 = true then (if 0 ≤ a1_1 then (if a1_1 < (bt243.1.length : Int) then (some (bt243.1, bt243.2.1, bt243.2.2.1, bt243.2.2.2.1, bt243.2.2.2.2, (rd_T93 bt243.1 a1_1).f1)) else (none)) else (none)) else (some (bt243.1, bt243.2.1, bt243.2.2.1, bt243.2.2.2.1, 5, 0)))) else (some (bt243.1, bt243.2.1, bt243.2.2.1, bt243.2.2.2.1, bt243.2.2.2.2, 0)))
set_option maxHeartbeats 8000000 in
set_option maxRecDepth 100000 in
theorem spec_Looked.calls (A0_0 : Option Addr) (c0_0 : Nat) (l0_0 : List (S93)) (A0_1 : Option Addr) (c0_1 : Nat) (l0_1 : List Int) (A0_2 : Option Addr) (c0_2 : Nat) (l0_2 : List Int) (a0_3 : Int) (a0_4 : Int) (a1_0 : Int) (a1_1 : Int) (r1 : List (S93)) (r2 : List Int) (r3 : List Int) (r4 : Int) (r5 : Int) (r6 : Int) (w : World) (hr0_0 : Kd.C k93 w A0_0 l0_0.length l0_0) (hc0_0 : l0_0.length ≤ c0_0) (hr0_1 : Kd.C (Kd.int .i64) w A0_1 l0_1.length l0_1) (hc0_1 : l0_1.length ≤ c0_1) (hr0_2 : Kd.C (Kd.int .i64) w A0_2 l0_2.length l0_2) (hc0_2 : l0_2.length ≤ c0_2) (h : spec_Looked.f l0_0 l0_1 l0_2 a0_3 a0_4 a1_0 a1_1 = some (r1, r2, r3, r4, r5, r6)) :
  Calls Try.prog 33 #[.agg #[.slice A0_0 l0_0.length c0_0, .slice A0_1 l0_1.length c0_1, .slice A0_2 l0_2.length c0_2, .int .i64 a0_3, .int .i64 a0_4], .agg #[.int .i64 a1_0, .int .i64 a1_1]] w fun e w' => ∃ v0_ v1_ v2_ : Value, e = .returned (.tuple #[.agg #[v0_, v1_, v2_, .int .i64 r4, .int .i64 r5], .int .i64 r6]) ∧ Kd.R k93 93 w' w.heap.size (fun _ => True) v0_ r1 ∧ Kd.R (Kd.int .i64) 3 w' w.heap.size (fun k_ => some k_ ≠ (v2_ : Value).ownBlock) v1_ r2 ∧ Kd.R (Kd.int .i64) 3 w' w.heap.size (fun k_ => some k_ ≠ (v1_ : Value).ownBlock) v2_ r3 ∧ Below w.heap.size w w' := by
 have hu34 := Try.underlying34
 have hu37 := Try.underlying37
 have HR0_0 := As.mk hr0_0
 have HC0_0 := As.mk hc0_0
 clear hr0_0 hc0_0
 have HR0_1 := As.mk hr0_1
 have HC0_1 := As.mk hc0_1
 clear hr0_1 hc0_1
 have HR0_2 := As.mk hr0_2
 have HC0_2 := As.mk hc0_2
 clear hr0_2 hc0_2
 have HB := As.mk (Below.refl w.heap.size w)
 have H : ((spec_l09Copy.f l0_0 l0_1 l0_2 a0_3 a0_4).bind fun bt243 => (if bt243.2.2.2.2 = 0 then ((spec_l09Live.f bt243.1 bt243.2.1 bt243.2.2.1 bt243.2.2.2.1 bt243.2.2.2.2 a1_0 a1_1).bind fun t256 => (if t256 = true then (if 0 ≤ a1_1 then (if a1_1 < (bt243.1.length : Int) then (some (bt243.1, bt243.2.1, bt243.2.2.1, bt243.2.2.2.1, bt243.2.2.2.2, (rd_T93 bt243.1 a1_1).f1)) else (none)) else (none)) else (some (bt243.1, bt243.2.1, bt243.2.2.1, bt243.2.2.2.1, 5, 0)))) else (some (bt243.1, bt243.2.1, bt243.2.2.1, bt243.2.2.2.1, bt243.2.2.2.2, 0)))) = some (r1, r2, r3, r4, r5, r6) := h
 clear h
 obtain ⟨⟨t243, t246, t249, t252, t253⟩, A30, H⟩ := Option.bind_eq_some_iff.mp H
 try dsimp only at H
 have A3 := As.mk A30
 clear A30
 by_cases c4 : t253 = 0
 rotate_left
 ·
  rw [if_neg c4] at H
  have c4b0 : (t253 == 0) = false := beq_eq_false_iff_ne.mpr c4
  have c4b1 : (t253 != 0) = true := bne_iff_ne.mpr c4
  simp only [Option.some.injEq, Prod.mk.injEq] at H
  obtain ⟨rfl, rfl, rfl, rfl, rfl, rfl⟩ := H
  go_enter Try.func33, Try.ntmps33
  go_wp2_with (first | ((with_reducible refine gate_dst (N := 2) rfl ?_); refine box_event ?hg (N := 2) ?hd (cs := #[.slice A0_0 l0_0.length c0_0, .slice A0_1 l0_1.length c0_1, .slice A0_2 l0_2.length c0_2, .int .i64 a0_3, .int .i64 a0_4]) (t := 34) ?hr ?_; (case hd => rfl); (case hg => rfl); (case hr => first | (go_simp; done) | (go_simp; rfl)); intro gb240 hg w56 hbox hb; have BK240 := As.mk (hbox); have GW240 := As.mk (gs w hg); have GE240 := As.mk (gs w hg); replace HB := As.mk (below_step (be w) hb); clear hb hbox hg) | ((with_reducible refine gate_dst (N := 3) rfl ?_); refine box_event ?hg (N := 3) ?hd (cs := #[.int .i64 a1_0, .int .i64 a1_1]) (t := 37) ?hr ?_; (case hd => rfl); (case hg => rfl); (case hr => first | (go_simp; done) | (go_simp; rfl)); intro gb241 hg w57 hbox hb; have BK241 := As.mk (hbox); have GW241 := As.mk (gs w hg); have GE241 := As.mk (gs w hg); replace HB := As.mk (below_step (be w) hb); have NB240_241 := As.mk (nl hg (bx BK240.out)); have NB241_240 := As.mk (ng hg (bx BK240.out)); replace BK240 := As.mk (blk_below (bx BK240.out) hb); clear hb hbox hg) | ((with_reducible refine gate_dst (N := 4) rfl ?_); refine box_event ?hg (N := 4) ?hd (cs := #[.slice none 0 0, .slice none 0 0, .slice none 0 0, .int .i64 0, .int .i64 0]) (t := 34) ?hr ?_; (case hd => rfl); (case hg => rfl); (case hr => first | (go_simp; done) | (go_simp; rfl)); intro gb242 hg w58 hbox hb; have BK242 := As.mk (hbox); have GW242 := As.mk (gs w hg); have GE242 := As.mk (gs w hg); replace HB := As.mk (below_step (be w) hb); have NB240_242 := As.mk (nl hg (bx BK240.out)); have NB242_240 := As.mk (ng hg (bx BK240.out)); replace BK240 := As.mk (blk_below (bx BK240.out) hb); have NB241_242 := As.mk (nl hg (bx BK241.out)); have NB242_241 := As.mk (ng hg (bx BK241.out)); replace BK241 := As.mk (blk_below (bx BK241.out) hb); clear hb hbox hg; have hnb59 := NB240_241.out; have hnc59 := NB241_240.out; have hnb60 := NB240_242.out; have hnc60 := NB242_240.out; obtain ⟨hcz61_0, hcz61_1, hcz61_2, hcz61_3, hcz61_4, hfz61_0, hfz61_1, hfz61_2, hfz61_3, hfz61_4⟩ := cl5 BK240.out) | ((with_reducible refine gate_callee (f := 50) rfl ?_); refine goesL_ (some 9) rfl rfl Try.func50 (by kernel_rfl) rfl #[.agg #[.slice A0_0 l0_0.length c0_0, .slice A0_1 l0_1.length c0_1, .slice A0_2 l0_2.length c0_2, .int .i64 a0_3, .int .i64 a0_4]] rfl (by (try simp only [lm]); first | done | rfl | (simp only [List.length_drop, List.length_take]; rfl)) ?_; (with_reducible refine (spec_l09Copy.calls _ _ l0_0 _ _ l0_1 _ _ l0_2 a0_3 a0_4 t243 t246 t249 t252 t253 _ ?side1 ?side2 ?side3 ?side4 ?side5 ?side6 A3.out).mono ?_); (case side1 => exact Kd.C_below HR0_0.out (be w)); (case side2 => exact HC0_0.out); (case side3 => exact Kd.C_below HR0_1.out (be w)); (case side4 => exact HC0_1.out); (case side5 => exact Kd.C_below HR0_2.out (be w)); (case side6 => exact HC0_2.out); rintro e w62 ⟨v244, v247, v250, rfl, ho0, ho1, ho2, hb⟩; refine ⟨_, rfl, ?_⟩; have HO245 := As.mk (Kd.R_lower ho0 (below_size (be w))); have HO248 := As.mk (Kd.R_lower ho1 (below_size (be w))); have HO251 := As.mk (Kd.R_lower ho2 (below_size (be w))); replace BK241 := As.mk (blk_below (bx BK241.out) hb); replace BK242 := As.mk (blk_below (bx BK242.out) hb); replace HB := As.mk (below_step (be w) hb); (try clear hb); (try clear hb2); (try clear hk); (try clear hi); (try clear ho0); (try clear ho1); (try clear ho2)) | ((with_reducible refine gate_dst (N := 6) rfl ?_); refine box_event ?hg (N := 6) ?hd (cs := #[.slice none 0 0, .slice none 0 0, .slice none 0 0, .int .i64 0, .int .i64 0]) (t := 34) ?hr ?_; (case hd => rfl); (case hg => rfl); (case hr => first | (go_simp; done) | (go_simp; rfl)); intro gb254 hg w63 hbox hb; replace HO245 := As.mk (Kd.R_below (by (with_reducible repeat (first | apply Kd.R_alloc | apply Kd.R_drewN | apply Kd.R_drew)); exact HO245.out) hb); replace HO248 := As.mk (Kd.R_below (by (with_reducible repeat (first | apply Kd.R_alloc | apply Kd.R_drewN | apply Kd.R_drew)); exact HO248.out) hb); replace HO251 := As.mk (Kd.R_below (by (with_reducible repeat (first | apply Kd.R_alloc | apply Kd.R_drewN | apply Kd.R_drew)); exact HO251.out) hb); have BK254 := As.mk (hbox); have GW254 := As.mk (gs w hg); have GE254 := As.mk (gs w hg); replace HB := As.mk (below_step (be w) hb); have NB241_254 := As.mk (nl hg (bx BK241.out)); have NB254_241 := As.mk (ng hg (bx BK241.out)); replace BK241 := As.mk (blk_below (bx BK241.out) hb); have NB242_254 := As.mk (nl hg (bx BK242.out)); have NB254_242 := As.mk (ng hg (bx BK242.out)); replace BK242 := As.mk (blk_below (bx BK242.out) hb); clear hb hbox hg; obtain ⟨Ao64, co64, eo64⟩ := Kd.R_slice HO245.out; subst eo64; have hnb65 := NB254_241.out; have hnc65 := NB241_254.out; have hnb66 := NB254_242.out; have hnc66 := NB242_254.out; obtain ⟨hcz67_0, hcz67_1, hcz67_2, hcz67_3, hcz67_4, hfz67_0, hfz67_1, hfz67_2, hfz67_3, hfz67_4⟩ := cl5 BK254.out; obtain ⟨Ao68, co68, eo68⟩ := Kd.R_slice HO248.out; subst eo68; obtain ⟨Ao69, co69, eo69⟩ := Kd.R_slice HO251.out; subst eo69; have hnb70 := NB241_242.out; have hnc70 := NB242_241.out; obtain ⟨hcz71_0, hcz71_1, hfz71_0, hfz71_1⟩ := cl2 BK241.out) | (go_at_call 63; go_in) | ((with_reducible refine gate_dst (N := 3) rfl ?_); refine box_event ?hg (N := 3) ?hd (cs := #[.int .i64 a1_0, .int .i64 a1_1]) (t := 37) ?hr ?_; (case hd => rfl); (case hg => rfl); (case hr => first | (go_simp; done) | (go_simp; rfl)); intro gb255 hg w72 hbox hb; replace HO245 := As.mk (Kd.R_below (by (with_reducible repeat (first | apply Kd.R_alloc | apply Kd.R_drewN | apply Kd.R_drew)); (have z_ := R_far5 HO245.out BK254.out (by decide)); with_reducible exact z_ _ _ _ _ _) hb); replace HO248 := As.mk (Kd.R_below (by (with_reducible repeat (first | apply Kd.R_alloc | apply Kd.R_drewN | apply Kd.R_drew)); (have z_ := R_far5 HO248.out BK254.out (by decide)); with_reducible exact z_ _ _ _ _ _) hb); replace HO251 := As.mk (Kd.R_below (by (with_reducible repeat (first | apply Kd.R_alloc | apply Kd.R_drewN | apply Kd.R_drew)); (have z_ := R_far5 HO251.out BK254.out (by decide)); with_reducible exact z_ _ _ _ _ _) hb); have BK255 := As.mk (hbox); have GW255 := As.mk (gs w hg); have GE255 := As.mk (gs w hg); replace HB := As.mk (below_step (be w) hb); have NB241_255 := As.mk ((by rw [hg]; exact Nat.ne_of_lt (blk_lt (g := gb241) (o := .cells #[.int .i64 a1_0, .int .i64 a1_1] 37 (0, 0)) (by refine pl ?_; refine blk_far ?_ NB241_254.out _; refine pl ?_; refine blk_far ?_ NB241_254.out _; refine pl ?_; refine blk_far ?_ NB241_254.out _; refine pl ?_; refine blk_far ?_ NB241_254.out _; refine pl ?_; refine blk_far ?_ NB241_254.out _; exact bx BK241.out)) : gb241 ≠ gb255)); have NB255_241 := As.mk ((by rw [hg]; exact Nat.ne_of_gt (blk_lt (g := gb241) (o := .cells #[.int .i64 a1_0, .int .i64 a1_1] 37 (0, 0)) (by refine pl ?_; refine blk_far ?_ NB241_254.out _; refine pl ?_; refine blk_far ?_ NB241_254.out _; refine pl ?_; refine blk_far ?_ NB241_254.out _; refine pl ?_; refine blk_far ?_ NB241_254.out _; refine pl ?_; refine blk_far ?_ NB241_254.out _; exact bx BK241.out)) : gb255 ≠ gb241)); replace BK241 := As.mk (blk_below (g := gb241) (o := .cells #[.int .i64 a1_0, .int .i64 a1_1] 37 (0, 0)) (by refine pl ?_; refine blk_far ?_ NB241_254.out _; refine pl ?_; refine blk_far ?_ NB241_254.out _; refine pl ?_; refine blk_far ?_ NB241_254.out _; refine pl ?_; refine blk_far ?_ NB241_254.out _; refine pl ?_; refine blk_far ?_ NB241_254.out _; exact bx BK241.out) hb); have NB242_255 := As.mk ((by rw [hg]; exact Nat.ne_of_lt (blk_lt (g := gb242) (o := .cells #[.slice none 0 0, .slice none 0 0, .slice none 0 0, .int .i64 0, .int .i64 0] 34 (0, 0)) (by refine pl ?_; refine blk_far ?_ NB242_254.out _; refine pl ?_; refine blk_far ?_ NB242_254.out _; refine pl ?_; refine blk_far ?_ NB242_254.out _; refine pl ?_; refine blk_far ?_ NB242_254.out _; refine pl ?_; refine blk_far ?_ NB242_254.out _; exact bx BK242.out)) : gb242 ≠ gb255)); have NB255_242 := As.mk ((by rw [hg]; exact Nat.ne_of_gt (blk_lt (g := gb242) (o := .cells #[.slice none 0 0, .slice none 0 0, .slice none 0 0, .int .i64 0, .int .i64 0] 34 (0, 0)) (by refine pl ?_; refine blk_far ?_ NB242_254.out _; refine pl ?_; refine blk_far ?_ NB242_254.out _; refine pl ?_; refine blk_far ?_ NB242_254.out _; refine pl ?_; refine blk_far ?_ NB242_254.out _; refine pl ?_; refine blk_far ?_ NB242_254.out _; exact bx BK242.out)) : gb255 ≠ gb242)); replace BK242 := As.mk (blk_below (g := gb242) (o := .cells #[.slice none 0 0, .slice none 0 0, .slice none 0 0, .int .i64 0, .int .i64 0] 34 (0, 0)) (by refine pl ?_; refine blk_far ?_ NB242_254.out _; refine pl ?_; refine blk_far ?_ NB242_254.out _; refine pl ?_; refine blk_far ?_ NB242_254.out _; refine pl ?_; refine blk_far ?_ NB242_254.out _; refine pl ?_; refine blk_far ?_ NB242_254.out _; exact bx BK242.out) hb); have NB254_255 := As.mk ((by rw [hg]; exact Nat.ne_of_lt (blk_lt (g := gb254) (o := .cells #[.slice Ao64 t243.length co64, .slice Ao68 t246.length co68, .slice Ao69 t249.length co69, .int .i64 t252, .int .i64 t253] 34 (0, 0)) (by refine pl ?_; refine blk_put (cs := #[.slice Ao64 t243.length co64, .slice Ao68 t246.length co68, .slice Ao69 t249.length co69, .int .i64 t252, .int .i64 0]) ?_ 4 _ rfl; refine pl ?_; refine blk_put (cs := #[.slice Ao64 t243.length co64, .slice Ao68 t246.length co68, .slice Ao69 t249.length co69, .int .i64 0, .int .i64 0]) ?_ 3 _ rfl; refine pl ?_; refine blk_put (cs := #[.slice Ao64 t243.length co64, .slice Ao68 t246.length co68, .slice none 0 0, .int .i64 0, .int .i64 0]) ?_ 2 _ rfl; refine pl ?_; refine blk_put (cs := #[.slice Ao64 t243.length co64, .slice none 0 0, .slice none 0 0, .int .i64 0, .int .i64 0]) ?_ 1 _ rfl; refine pl ?_; refine blk_put (cs := #[.slice none 0 0, .slice none 0 0, .slice none 0 0, .int .i64 0, .int .i64 0]) ?_ 0 _ rfl; exact bx BK254.out)) : gb254 ≠ gb255)); have NB255_254 := As.mk ((by rw [hg]; exact Nat.ne_of_gt (blk_lt (g := gb254) (o := .cells #[.slice Ao64 t243.length co64, .slice Ao68 t246.length co68, .slice Ao69 t249.length co69, .int .i64 t252, .int .i64 t253] 34 (0, 0)) (by refine pl ?_; refine blk_put (cs := #[.slice Ao64 t243.length co64, .slice Ao68 t246.length co68, .slice Ao69 t249.length co69, .int .i64 t252, .int .i64 0]) ?_ 4 _ rfl; refine pl ?_; refine blk_put (cs := #[.slice Ao64 t243.length co64, .slice Ao68 t246.length co68, .slice Ao69 t249.length co69, .int .i64 0, .int .i64 0]) ?_ 3 _ rfl; refine pl ?_; refine blk_put (cs := #[.slice Ao64 t243.length co64, .slice Ao68 t246.length co68, .slice none 0 0, .int .i64 0, .int .i64 0]) ?_ 2 _ rfl; refine pl ?_; refine blk_put (cs := #[.slice Ao64 t243.length co64, .slice none 0 0, .slice none 0 0, .int .i64 0, .int .i64 0]) ?_ 1 _ rfl; refine pl ?_; refine blk_put (cs := #[.slice none 0 0, .slice none 0 0, .slice none 0 0, .int .i64 0, .int .i64 0]) ?_ 0 _ rfl; exact bx BK254.out)) : gb255 ≠ gb254)); replace BK254 := As.mk (blk_below (g := gb254) (o := .cells #[.slice Ao64 t243.length co64, .slice Ao68 t246.length co68, .slice Ao69 t249.length co69, .int .i64 t252, .int .i64 t253] 34 (0, 0)) (by refine pl ?_; refine blk_put (cs := #[.slice Ao64 t243.length co64, .slice Ao68 t246.length co68, .slice Ao69 t249.length co69, .int .i64 t252, .int .i64 0]) ?_ 4 _ rfl; refine pl ?_; refine blk_put (cs := #[.slice Ao64 t243.length co64, .slice Ao68 t246.length co68, .slice Ao69 t249.length co69, .int .i64 0, .int .i64 0]) ?_ 3 _ rfl; refine pl ?_; refine blk_put (cs := #[.slice Ao64 t243.length co64, .slice Ao68 t246.length co68, .slice none 0 0, .int .i64 0, .int .i64 0]) ?_ 2 _ rfl; refine pl ?_; refine blk_put (cs := #[.slice Ao64 t243.length co64, .slice none 0 0, .slice none 0 0, .int .i64 0, .int .i64 0]) ?_ 1 _ rfl; refine pl ?_; refine blk_put (cs := #[.slice none 0 0, .slice none 0 0, .slice none 0 0, .int .i64 0, .int .i64 0]) ?_ 0 _ rfl; exact bx BK254.out) hb); clear hb hbox hg; obtain ⟨hcz73_0, hcz73_1, hcz73_2, hcz73_3, hcz73_4, hfz73_0, hfz73_1, hfz73_2, hfz73_3, hfz73_4⟩ := cl5 BK254.out; obtain ⟨hcz74_0, hcz74_1, hcz74_2, hcz74_3, hcz74_4, hfz74_0, hfz74_1, hfz74_2, hfz74_3, hfz74_4⟩ := cl5 BK242.out) | (with_reducible show bodyPost Try.prog Try.f63 _ _ _ _; (try simp only [Exit.inBlock, Exit.then]); refine bodyPost_ret (results_tmp rfl _ _ _) rfl ?_; simp only []; go_at_K; (try ((first | refine lay_top (by go_cell_look) ?_ | refine lay_top1 (by go_cell_look) ?_ | refine lay_top2 (by go_cell_look) ?_); intro hlay_))))
  refine bodyPost_ret (results_ct rfl _ _ gb242 34 #[.slice Ao64 t243.length co64, .slice Ao68 t246.length co68, .slice Ao69 t249.length co69, .int .i64 t252, .int .i64 t253] (0, 0) _ rfl (by refine pl ?_; refine blk_put (cs := #[.slice Ao64 t243.length co64, .slice Ao68 t246.length co68, .slice Ao69 t249.length co69, .int .i64 t252, .int .i64 0]) ?_ 4 _ rfl; refine pl ?_; refine blk_put (cs := #[.slice Ao64 t243.length co64, .slice Ao68 t246.length co68, .slice Ao69 t249.length co69, .int .i64 0, .int .i64 0]) ?_ 3 _ rfl; refine pl ?_; refine blk_put (cs := #[.slice Ao64 t243.length co64, .slice Ao68 t246.length co68, .slice none 0 0, .int .i64 0, .int .i64 0]) ?_ 2 _ rfl; refine pl ?_; refine blk_put (cs := #[.slice Ao64 t243.length co64, .slice none 0 0, .slice none 0 0, .int .i64 0, .int .i64 0]) ?_ 1 _ rfl; refine pl ?_; refine blk_put (cs := #[.slice none 0 0, .slice none 0 0, .slice none 0 0, .int .i64 0, .int .i64 0]) ?_ 0 _ rfl; exact bx BK242.out) Try.underlying34 rfl (by kernel_rfl)) rfl ?_
  exact ⟨_, _, _, by first | rfl | (simp [errW_none, errW_some] <;> rfl) | (simp [*, errW_none, errW_some] <;> rfl), by (with_reducible repeat (first | apply Kd.R_alloc | apply Kd.R_drewN | apply Kd.R_drew)); exact Kd.R_mono (Kd.R_far (p := ⟨gb242, 4, none⟩) (Kd.R_far (p := ⟨gb242, 3, none⟩) (Kd.R_far (p := ⟨gb242, 2, none⟩) (Kd.R_far (p := ⟨gb242, 1, none⟩) (Kd.R_far (p := ⟨gb242, 0, none⟩) (Kd.R_types HO245.out BK242.out (by decide)) (fun _ hk => hk.2) (.slice Ao64 t243.length co64)) (fun _ hk => hk.2) (.slice Ao68 t246.length co68)) (fun _ hk => hk.2) (.slice Ao69 t249.length co69)) (fun _ hk => hk.2) (.int .i64 t252)) (fun _ hk => hk.2) (.int .i64 t253)) (fun _ hk => trivial), by (with_reducible repeat (first | apply Kd.R_alloc | apply Kd.R_drewN | apply Kd.R_drew)); exact Kd.R_mono (Kd.R_far (p := ⟨gb242, 4, none⟩) (Kd.R_far (p := ⟨gb242, 3, none⟩) (Kd.R_far (p := ⟨gb242, 2, none⟩) (Kd.R_far (p := ⟨gb242, 1, none⟩) (Kd.R_far (p := ⟨gb242, 0, none⟩) (Kd.R_types HO248.out BK242.out (by decide)) (fun _ hk => hk.2) (.slice Ao64 t243.length co64)) (fun _ hk => hk.2) (.slice Ao68 t246.length co68)) (fun _ hk => hk.2) (.slice Ao69 t249.length co69)) (fun _ hk => hk.2) (.int .i64 t252)) (fun _ hk => hk.2) (.int .i64 t253)) (fun _ hk => hk.1), by (with_reducible repeat (first | apply Kd.R_alloc | apply Kd.R_drewN | apply Kd.R_drew)); exact Kd.R_mono (Kd.R_far (p := ⟨gb242, 4, none⟩) (Kd.R_far (p := ⟨gb242, 3, none⟩) (Kd.R_far (p := ⟨gb242, 2, none⟩) (Kd.R_far (p := ⟨gb242, 1, none⟩) (Kd.R_far (p := ⟨gb242, 0, none⟩) (Kd.R_types HO251.out BK242.out (by decide)) (fun _ hk => hk.2) (.slice Ao64 t243.length co64)) (fun _ hk => hk.2) (.slice Ao68 t246.length co68)) (fun _ hk => hk.2) (.slice Ao69 t249.length co69)) (fun _ hk => hk.2) (.int .i64 t252)) (fun _ hk => hk.2) (.int .i64 t253)) (fun _ hk => hk.1), be w⟩

 rw [if_pos c4] at H
 have c4b0 : (t253 == 0) = true := beq_iff_eq.mpr c4
 have c4b1 : (t253 != 0) = false := bne_eq_false_iff_eq.mpr c4
 clear c4
 obtain ⟨t256, A50, H⟩ := Option.bind_eq_some_iff.mp H
 try dsimp only at H
 have A5 := As.mk A50
 clear A50
 by_cases c6 : t256 = true
 rotate_left
 ·
  replace c6 := Bool.eq_false_iff.mpr c6
  subst c6
  rw [if_neg (show ¬ (false = true) by decide)] at H
  simp only [Option.some.injEq, Prod.mk.injEq] at H
  obtain ⟨rfl, rfl, rfl, rfl, rfl, rfl⟩ := H
  go_enter Try.func33, Try.ntmps33
  try go_wp2_with (first | ((with_reducible refine gate_dst (N := 2) rfl ?_); refine box_event ?hg (N := 2) ?hd (cs := #[.slice A0_0 l0_0.length c0_0, .slice A0_1 l0_1.length c0_1, .slice A0_2 l0_2.length c0_2, .int .i64 a0_3, .int .i64 a0_4]) (t := 34) ?hr ?_; (case hd => rfl); (case hg => rfl); (case hr => first | (go_simp; done) | (go_simp; rfl)); intro gb240 hg w33 hbox hb; have BK240 := As.mk (hbox); have GW240 := As.mk (gs w hg); have GE240 := As.mk (gs w hg); replace HB := As.mk (below_step (be w) hb); clear hb hbox hg) | ((with_reducible refine gate_dst (N := 3) rfl ?_); refine box_event ?hg (N := 3) ?hd (cs := #[.int .i64 a1_0, .int .i64 a1_1]) (t := 37) ?hr ?_; (case hd => rfl); (case hg => rfl); (case hr => first | (go_simp; done) | (go_simp; rfl)); intro gb241 hg w34 hbox hb; have BK241 := As.mk (hbox); have GW241 := As.mk (gs w hg); have GE241 := As.mk (gs w hg); replace HB := As.mk (below_step (be w) hb); have NB240_241 := As.mk (nl hg (bx BK240.out)); have NB241_240 := As.mk (ng hg (bx BK240.out)); replace BK240 := As.mk (blk_below (bx BK240.out) hb); clear hb hbox hg) | ((with_reducible refine gate_dst (N := 4) rfl ?_); refine box_event ?hg (N := 4) ?hd (cs := #[.slice none 0 0, .slice none 0 0, .slice none 0 0, .int .i64 0, .int .i64 0]) (t := 34) ?hr ?_; (case hd => rfl); (case hg => rfl); (case hr => first | (go_simp; done) | (go_simp; rfl)); intro gb242 hg w35 hbox hb; have BK242 := As.mk (hbox); have GW242 := As.mk (gs w hg); have GE242 := As.mk (gs w hg); replace HB := As.mk (below_step (be w) hb); have NB240_242 := As.mk (nl hg (bx BK240.out)); have NB242_240 := As.mk (ng hg (bx BK240.out)); replace BK240 := As.mk (blk_below (bx BK240.out) hb); have NB241_242 := As.mk (nl hg (bx BK241.out)); have NB242_241 := As.mk (ng hg (bx BK241.out)); replace BK241 := As.mk (blk_below (bx BK241.out) hb); clear hb hbox hg; have hnb36 := NB240_241.out; have hnc36 := NB241_240.out; have hnb37 := NB240_242.out; have hnc37 := NB242_240.out; obtain ⟨hcz38_0, hcz38_1, hcz38_2, hcz38_3, hcz38_4, hfz38_0, hfz38_1, hfz38_2, hfz38_3, hfz38_4⟩ := cl5 BK240.out) | ((with_reducible refine gate_callee (f := 50) rfl ?_); refine goesL_ (some 9) rfl rfl Try.func50 (by kernel_rfl) rfl #[.agg #[.slice A0_0 l0_0.length c0_0, .slice A0_1 l0_1.length c0_1, .slice A0_2 l0_2.length c0_2, .int .i64 a0_3, .int .i64 a0_4]] rfl (by (try simp only [lm]); first | done | rfl | (simp only [List.length_drop, List.length_take]; rfl)) ?_; (with_reducible refine (spec_l09Copy.calls _ _ l0_0 _ _ l0_1 _ _ l0_2 a0_3 a0_4 t243 t246 t249 t252 t253 _ ?side1 ?side2 ?side3 ?side4 ?side5 ?side6 A3.out).mono ?_); (case side1 => exact Kd.C_below HR0_0.out (be w)); (case side2 => exact HC0_0.out); (case side3 => exact Kd.C_below HR0_1.out (be w)); (case side4 => exact HC0_1.out); (case side5 => exact Kd.C_below HR0_2.out (be w)); (case side6 => exact HC0_2.out); rintro e w39 ⟨v244, v247, v250, rfl, ho0, ho1, ho2, hb⟩; refine ⟨_, rfl, ?_⟩; have HO245 := As.mk (Kd.R_lower ho0 (below_size (be w))); have HO248 := As.mk (Kd.R_lower ho1 (below_size (be w))); have HO251 := As.mk (Kd.R_lower ho2 (below_size (be w))); replace BK241 := As.mk (blk_below (bx BK241.out) hb); replace BK242 := As.mk (blk_below (bx BK242.out) hb); replace HB := As.mk (below_step (be w) hb); (try clear hb); (try clear hb2); (try clear hk); (try clear hi); (try clear ho0); (try clear ho1); (try clear ho2)) | ((with_reducible refine gate_dst (N := 6) rfl ?_); refine box_event ?hg (N := 6) ?hd (cs := #[.slice none 0 0, .slice none 0 0, .slice none 0 0, .int .i64 0, .int .i64 0]) (t := 34) ?hr ?_; (case hd => rfl); (case hg => rfl); (case hr => first | (go_simp; done) | (go_simp; rfl)); intro gb254 hg w40 hbox hb; replace HO245 := As.mk (Kd.R_below (by (with_reducible repeat (first | apply Kd.R_alloc | apply Kd.R_drewN | apply Kd.R_drew)); exact HO245.out) hb); replace HO248 := As.mk (Kd.R_below (by (with_reducible repeat (first | apply Kd.R_alloc | apply Kd.R_drewN | apply Kd.R_drew)); exact HO248.out) hb); replace HO251 := As.mk (Kd.R_below (by (with_reducible repeat (first | apply Kd.R_alloc | apply Kd.R_drewN | apply Kd.R_drew)); exact HO251.out) hb); have BK254 := As.mk (hbox); have GW254 := As.mk (gs w hg); have GE254 := As.mk (gs w hg); replace HB := As.mk (below_step (be w) hb); have NB241_254 := As.mk (nl hg (bx BK241.out)); have NB254_241 := As.mk (ng hg (bx BK241.out)); replace BK241 := As.mk (blk_below (bx BK241.out) hb); have NB242_254 := As.mk (nl hg (bx BK242.out)); have NB254_242 := As.mk (ng hg (bx BK242.out)); replace BK242 := As.mk (blk_below (bx BK242.out) hb); clear hb hbox hg; obtain ⟨Ao41, co41, eo41⟩ := Kd.R_slice HO245.out; subst eo41; have hnb42 := NB254_241.out; have hnc42 := NB241_254.out; have hnb43 := NB254_242.out; have hnc43 := NB242_254.out; obtain ⟨hcz44_0, hcz44_1, hcz44_2, hcz44_3, hcz44_4, hfz44_0, hfz44_1, hfz44_2, hfz44_3, hfz44_4⟩ := cl5 BK254.out; obtain ⟨Ao45, co45, eo45⟩ := Kd.R_slice HO248.out; subst eo45; obtain ⟨Ao46, co46, eo46⟩ := Kd.R_slice HO251.out; subst eo46; have hnb47 := NB241_242.out; have hnc47 := NB242_241.out; obtain ⟨hcz48_0, hcz48_1, hfz48_0, hfz48_1⟩ := cl2 BK241.out) | (go_at_call 63; go_in) | ((with_reducible refine gate_dst (N := 3) rfl ?_); refine box_event ?hg (N := 3) ?hd (cs := #[.int .i64 a1_0, .int .i64 a1_1]) (t := 37) ?hr ?_; (case hd => rfl); (case hg => rfl); (case hr => first | (go_simp; done) | (go_simp; rfl)); intro gb255 hg w49 hbox hb; replace HO245 := As.mk (Kd.R_below (by (with_reducible repeat (first | apply Kd.R_alloc | apply Kd.R_drewN | apply Kd.R_drew)); (have z_ := R_far5 HO245.out BK254.out (by decide)); with_reducible exact z_ _ _ _ _ _) hb); replace HO248 := As.mk (Kd.R_below (by (with_reducible repeat (first | apply Kd.R_alloc | apply Kd.R_drewN | apply Kd.R_drew)); (have z_ := R_far5 HO248.out BK254.out (by decide)); with_reducible exact z_ _ _ _ _ _) hb); replace HO251 := As.mk (Kd.R_below (by (with_reducible repeat (first | apply Kd.R_alloc | apply Kd.R_drewN | apply Kd.R_drew)); (have z_ := R_far5 HO251.out BK254.out (by decide)); with_reducible exact z_ _ _ _ _ _) hb); have BK255 := As.mk (hbox); have GW255 := As.mk (gs w hg); have GE255 := As.mk (gs w hg); replace HB := As.mk (below_step (be w) hb); have NB241_255 := As.mk ((by rw [hg]; exact Nat.ne_of_lt (blk_lt (g := gb241) (o := .cells #[.int .i64 a1_0, .int .i64 a1_1] 37 (0, 0)) (by refine pl ?_; refine blk_far ?_ NB241_254.out _; refine pl ?_; refine blk_far ?_ NB241_254.out _; refine pl ?_; refine blk_far ?_ NB241_254.out _; refine pl ?_; refine blk_far ?_ NB241_254.out _; refine pl ?_; refine blk_far ?_ NB241_254.out _; exact bx BK241.out)) : gb241 ≠ gb255)); have NB255_241 := As.mk ((by rw [hg]; exact Nat.ne_of_gt (blk_lt (g := gb241) (o := .cells #[.int .i64 a1_0, .int .i64 a1_1] 37 (0, 0)) (by refine pl ?_; refine blk_far ?_ NB241_254.out _; refine pl ?_; refine blk_far ?_ NB241_254.out _; refine pl ?_; refine blk_far ?_ NB241_254.out _; refine pl ?_; refine blk_far ?_ NB241_254.out _; refine pl ?_; refine blk_far ?_ NB241_254.out _; exact bx BK241.out)) : gb255 ≠ gb241)); replace BK241 := As.mk (blk_below (g := gb241) (o := .cells #[.int .i64 a1_0, .int .i64 a1_1] 37 (0, 0)) (by refine pl ?_; refine blk_far ?_ NB241_254.out _; refine pl ?_; refine blk_far ?_ NB241_254.out _; refine pl ?_; refine blk_far ?_ NB241_254.out _; refine pl ?_; refine blk_far ?_ NB241_254.out _; refine pl ?_; refine blk_far ?_ NB241_254.out _; exact bx BK241.out) hb); have NB242_255 := As.mk ((by rw [hg]; exact Nat.ne_of_lt (blk_lt (g := gb242) (o := .cells #[.slice none 0 0, .slice none 0 0, .slice none 0 0, .int .i64 0, .int .i64 0] 34 (0, 0)) (by refine pl ?_; refine blk_far ?_ NB242_254.out _; refine pl ?_; refine blk_far ?_ NB242_254.out _; refine pl ?_; refine blk_far ?_ NB242_254.out _; refine pl ?_; refine blk_far ?_ NB242_254.out _; refine pl ?_; refine blk_far ?_ NB242_254.out _; exact bx BK242.out)) : gb242 ≠ gb255)); have NB255_242 := As.mk ((by rw [hg]; exact Nat.ne_of_gt (blk_lt (g := gb242) (o := .cells #[.slice none 0 0, .slice none 0 0, .slice none 0 0, .int .i64 0, .int .i64 0] 34 (0, 0)) (by refine pl ?_; refine blk_far ?_ NB242_254.out _; refine pl ?_; refine blk_far ?_ NB242_254.out _; refine pl ?_; refine blk_far ?_ NB242_254.out _; refine pl ?_; refine blk_far ?_ NB242_254.out _; refine pl ?_; refine blk_far ?_ NB242_254.out _; exact bx BK242.out)) : gb255 ≠ gb242)); replace BK242 := As.mk (blk_below (g := gb242) (o := .cells #[.slice none 0 0, .slice none 0 0, .slice none 0 0, .int .i64 0, .int .i64 0] 34 (0, 0)) (by refine pl ?_; refine blk_far ?_ NB242_254.out _; refine pl ?_; refine blk_far ?_ NB242_254.out _; refine pl ?_; refine blk_far ?_ NB242_254.out _; refine pl ?_; refine blk_far ?_ NB242_254.out _; refine pl ?_; refine blk_far ?_ NB242_254.out _; exact bx BK242.out) hb); have NB254_255 := As.mk ((by rw [hg]; exact Nat.ne_of_lt (blk_lt (g := gb254) (o := .cells #[.slice Ao41 t243.length co41, .slice Ao45 t246.length co45, .slice Ao46 t249.length co46, .int .i64 t252, .int .i64 t253] 34 (0, 0)) (by refine pl ?_; refine blk_put (cs := #[.slice Ao41 t243.length co41, .slice Ao45 t246.length co45, .slice Ao46 t249.length co46, .int .i64 t252, .int .i64 0]) ?_ 4 _ rfl; refine pl ?_; refine blk_put (cs := #[.slice Ao41 t243.length co41, .slice Ao45 t246.length co45, .slice Ao46 t249.length co46, .int .i64 0, .int .i64 0]) ?_ 3 _ rfl; refine pl ?_; refine blk_put (cs := #[.slice Ao41 t243.length co41, .slice Ao45 t246.length co45, .slice none 0 0, .int .i64 0, .int .i64 0]) ?_ 2 _ rfl; refine pl ?_; refine blk_put (cs := #[.slice Ao41 t243.length co41, .slice none 0 0, .slice none 0 0, .int .i64 0, .int .i64 0]) ?_ 1 _ rfl; refine pl ?_; refine blk_put (cs := #[.slice none 0 0, .slice none 0 0, .slice none 0 0, .int .i64 0, .int .i64 0]) ?_ 0 _ rfl; exact bx BK254.out)) : gb254 ≠ gb255)); have NB255_254 := As.mk ((by rw [hg]; exact Nat.ne_of_gt (blk_lt (g := gb254) (o := .cells #[.slice Ao41 t243.length co41, .slice Ao45 t246.length co45, .slice Ao46 t249.length co46, .int .i64 t252, .int .i64 t253] 34 (0, 0)) (by refine pl ?_; refine blk_put (cs := #[.slice Ao41 t243.length co41, .slice Ao45 t246.length co45, .slice Ao46 t249.length co46, .int .i64 t252, .int .i64 0]) ?_ 4 _ rfl; refine pl ?_; refine blk_put (cs := #[.slice Ao41 t243.length co41, .slice Ao45 t246.length co45, .slice Ao46 t249.length co46, .int .i64 0, .int .i64 0]) ?_ 3 _ rfl; refine pl ?_; refine blk_put (cs := #[.slice Ao41 t243.length co41, .slice Ao45 t246.length co45, .slice none 0 0, .int .i64 0, .int .i64 0]) ?_ 2 _ rfl; refine pl ?_; refine blk_put (cs := #[.slice Ao41 t243.length co41, .slice none 0 0, .slice none 0 0, .int .i64 0, .int .i64 0]) ?_ 1 _ rfl; refine pl ?_; refine blk_put (cs := #[.slice none 0 0, .slice none 0 0, .slice none 0 0, .int .i64 0, .int .i64 0]) ?_ 0 _ rfl; exact bx BK254.out)) : gb255 ≠ gb254)); replace BK254 := As.mk (blk_below (g := gb254) (o := .cells #[.slice Ao41 t243.length co41, .slice Ao45 t246.length co45, .slice Ao46 t249.length co46, .int .i64 t252, .int .i64 t253] 34 (0, 0)) (by refine pl ?_; refine blk_put (cs := #[.slice Ao41 t243.length co41, .slice Ao45 t246.length co45, .slice Ao46 t249.length co46, .int .i64 t252, .int .i64 0]) ?_ 4 _ rfl; refine pl ?_; refine blk_put (cs := #[.slice Ao41 t243.length co41, .slice Ao45 t246.length co45, .slice Ao46 t249.length co46, .int .i64 0, .int .i64 0]) ?_ 3 _ rfl; refine pl ?_; refine blk_put (cs := #[.slice Ao41 t243.length co41, .slice Ao45 t246.length co45, .slice none 0 0, .int .i64 0, .int .i64 0]) ?_ 2 _ rfl; refine pl ?_; refine blk_put (cs := #[.slice Ao41 t243.length co41, .slice none 0 0, .slice none 0 0, .int .i64 0, .int .i64 0]) ?_ 1 _ rfl; refine pl ?_; refine blk_put (cs := #[.slice none 0 0, .slice none 0 0, .slice none 0 0, .int .i64 0, .int .i64 0]) ?_ 0 _ rfl; exact bx BK254.out) hb); clear hb hbox hg; have hnb50 := NB254_255.out; have hnc50 := NB255_254.out; obtain ⟨hcz51_0, hcz51_1, hcz51_2, hcz51_3, hcz51_4, hfz51_0, hfz51_1, hfz51_2, hfz51_3, hfz51_4⟩ := cl5 BK254.out))
  replace HO245 := As.mk (Kd.R_drew HO245.out)
  replace HO248 := As.mk (Kd.R_drew HO248.out)
  replace HO251 := As.mk (Kd.R_drew HO251.out)
  replace BK242 := As.mk (blk_drew BK242.out)
  replace BK254 := As.mk (blk_drew BK254.out)
  replace BK255 := As.mk (blk_drew BK255.out)
  replace HB := As.mk (below_drew1 HB.out)
  refine start_ (n := 6) (S := fun w' => w'.cell? ⟨gb254, 0, none⟩ = some (.slice Ao41 t243.length co41) ∧ w'.cell? ⟨gb254, 1, none⟩ = some (.slice Ao45 t246.length co45) ∧ w'.cell? ⟨gb254, 2, none⟩ = some (.slice Ao46 t249.length co46) ∧ w'.cell? ⟨gb254, 3, none⟩ = some (.int .i64 t252) ∧ w'.cell? ⟨gb254, 4, none⟩ = some (.int .i64 t253) ∧ w'.cell? ⟨gb255, 0, none⟩ = some (.int .i64 a1_0) ∧ w'.cell? ⟨gb255, 1, none⟩ = some (.int .i64 a1_1)) (ds := []) #[O, O, O, O, O, O] (by kernel_rfl) rfl rfl ⟨(blk_cell BK254.out 0).trans rfl, (blk_cell BK254.out 1).trans rfl, (blk_cell BK254.out 2).trans rfl, (blk_cell BK254.out 3).trans rfl, (blk_cell BK254.out 4).trans rfl, (blk_cell BK255.out 0).trans rfl, (blk_cell BK255.out 1).trans rfl⟩ (fun hHeld => ?_)
  generalize w49.drew = w52 at HO245 HO248 HO251 BK242 BK254 BK255 HB hHeld ⊢
  refine pure_ (i := 0) (N := some 10) (v := ?_) (a' := ?_) #[I, O, O, O, O, O] rfl rfl (by kernel_rfl) (fun _ _ _ h => h) (Or.inl ⟨by rfl, ?_⟩) ?_ ?_
  rotate_left
  ·
   intro w'
   go_simp
   with_reducible rfl
  rotate_left
  ·
   simp only [pk, i64_w, i32_w]
   rfl
  refine pure_ (i := 1) (N := some 11) (v := ?_) (a' := ?_) #[I, I, O, O, O, O] rfl rfl (by kernel_rfl) (fun _ _ _ h => h) (Or.inl ⟨by rfl, ?_⟩) ?_ ?_
  rotate_left
  ·
   intro w'
   go_simp
   with_reducible rfl
  rotate_left
  ·
   simp only [pk, i64_w, i32_w]
   rfl
  refine take_ (i := 2) (N := some 12) (v := ?_) (a' := ?_) #[I, I, I, O, O, O] rfl rfl (by kernel_rfl) (fun _ _ _ h => h) (Or.inl ⟨by rfl, ?_⟩) hHeld ?_ ?_
  rotate_left
  ·
   rintro w' ⟨s0, s1, s2, s3, s4, s5, s6⟩
   go_simp
   with_reducible rfl
  rotate_left
  ·
   simp only [pk, i64_w, i32_w]
   rfl
  refine take_ (i := 3) (N := some 13) (v := ?_) (a' := ?_) #[I, I, I, I, O, O] rfl rfl (by kernel_rfl) (fun _ _ _ h => h) (Or.inl ⟨by rfl, ?_⟩) hHeld ?_ ?_
  rotate_left
  ·
   rintro w' ⟨s0, s1, s2, s3, s4, s5, s6⟩
   go_simp
   with_reducible rfl
  rotate_left
  ·
   simp only [pk, i64_w, i32_w]
   rfl
  refine one_ (i := 4) (N := some 14) #[I, I, I, I, I, O] rfl rfl (by kernel_rfl) (by decide) (fun K hK => ?_)
  refine goes_ Try.func75 (by kernel_rfl) rfl #[.agg #[.slice Ao41 t243.length co41, .slice Ao45 t246.length co45, .slice Ao46 t249.length co46, .int .i64 t252, .int .i64 t253], .agg #[.int .i64 a1_0, .int .i64 a1_1]] (by rfl) rfl rfl (by (try simp only [lm]); first | done | rfl | (simp only [List.length_drop, List.length_take]; rfl)) ?_
  with_reducible refine (spec_l09Live.calls _ _ t243 _ _ t246 _ _ t249 t252 t253 a1_0 a1_1 false _ ?side1 ?side2 ?side3 ?side4 ?side5 ?side6 A5.out).mono ?_
  (case side1 => repeat (first | exact (Kd.R_reads' HO245.out).2.2 | (with_reducible refine Kd.C_alloc ?_ _) | (with_reducible refine Kd.C_drewN ?_ _) | (with_reducible refine Kd.C_drew ?_)))
  (case side2 => exact (Kd.R_reads' HO245.out).2.1)
  (case side3 => repeat (first | exact (Kd.R_reads' HO248.out).2.2 | (with_reducible refine Kd.C_alloc ?_ _) | (with_reducible refine Kd.C_drewN ?_ _) | (with_reducible refine Kd.C_drew ?_)))
  (case side4 => exact (Kd.R_reads' HO248.out).2.1)
  (case side5 => repeat (first | exact (Kd.R_reads' HO251.out).2.2 | (with_reducible refine Kd.C_alloc ?_ _) | (with_reducible refine Kd.C_drewN ?_ _) | (with_reducible refine Kd.C_drew ?_)))
  (case side6 => exact (Kd.R_reads' HO251.out).2.1)
  rintro e w53 ⟨rfl, hb⟩
  refine ⟨_, rfl, ?_⟩
  replace HO245 := As.mk (Kd.R_below (by (with_reducible repeat (first | apply Kd.R_alloc | apply Kd.R_drewN | apply Kd.R_drew)); exact HO245.out) hb)
  replace HO248 := As.mk (Kd.R_below (by (with_reducible repeat (first | apply Kd.R_alloc | apply Kd.R_drewN | apply Kd.R_drew)); exact HO248.out) hb)
  replace HO251 := As.mk (Kd.R_below (by (with_reducible repeat (first | apply Kd.R_alloc | apply Kd.R_drewN | apply Kd.R_drew)); exact HO251.out) hb)
  replace BK242 := As.mk (blk_below (bx BK242.out) hb)
  replace BK254 := As.mk (blk_below (bx BK254.out) hb)
  replace BK255 := As.mk (blk_below (bx BK255.out) hb)
  replace HB := As.mk (below_step (be w) hb)
  (try clear hb)
  (try clear hb2)
  (try clear hk)
  (try clear hi)
  refine hK.out _ _ ⟨(blk_cell BK254.out 0).trans rfl, (blk_cell BK254.out 1).trans rfl, (blk_cell BK254.out 2).trans rfl, (blk_cell BK254.out 3).trans rfl, (blk_cell BK254.out 4).trans rfl, (blk_cell BK255.out 0).trans rfl, (blk_cell BK255.out 1).trans rfl⟩ (fun hHeld => ?_)
  clear hK K
  refine norm_ (a' := ?_) ?_ ?_
  rotate_left
  ·
   show Act.put _ (some 14) _ = _
   simp only [pk, i64_w, i32_w]
   rfl
  refine pure_ (i := 5) (N := some 15) (v := ?_) (a' := ?_) #[I, I, I, I, I, I] rfl rfl (by kernel_rfl) (fun _ _ _ h => h) (Or.inl ⟨by rfl, ?_⟩) ?_ ?_
  rotate_left
  ·
   intro w'
   go_simp
   with_reducible rfl
  rotate_left
  ·
   simp only [pk, i64_w, i32_w]
   rfl
  refine done_ (by kernel_rfl) ?_
  obtain ⟨hcz54_0, hcz54_1, hcz54_2, hcz54_3, hcz54_4, hfz54_0, hfz54_1, hfz54_2, hfz54_3, hfz54_4⟩ := cl5 BK254.out
  obtain ⟨hcz55_0, hcz55_1, hcz55_2, hcz55_3, hcz55_4, hfz55_0, hfz55_1, hfz55_2, hfz55_3, hfz55_4⟩ := cl5 BK242.out
  try go_wp2_with (first | (with_reducible show bodyPost Try.prog Try.f63 _ _ _ _; (try simp only [Exit.inBlock, Exit.then]); refine bodyPost_ret (results_tmp rfl _ _ _) rfl ?_; simp only []; go_at_K; (try ((first | refine lay_top (by go_cell_look) ?_ | refine lay_top1 (by go_cell_look) ?_ | refine lay_top2 (by go_cell_look) ?_); intro hlay_))))
  refine bodyPost_ret (results_ct rfl _ _ gb242 34 #[.slice Ao41 t243.length co41, .slice Ao45 t246.length co45, .slice Ao46 t249.length co46, .int .i64 t252, .int .i64 5] (0, 0) _ rfl (by refine pl ?_; refine blk_put (cs := #[.slice Ao41 t243.length co41, .slice Ao45 t246.length co45, .slice Ao46 t249.length co46, .int .i64 t252, .int .i64 0]) ?_ 4 _ rfl; refine pl ?_; refine blk_put (cs := #[.slice Ao41 t243.length co41, .slice Ao45 t246.length co45, .slice Ao46 t249.length co46, .int .i64 0, .int .i64 0]) ?_ 3 _ rfl; refine pl ?_; refine blk_put (cs := #[.slice Ao41 t243.length co41, .slice Ao45 t246.length co45, .slice none 0 0, .int .i64 0, .int .i64 0]) ?_ 2 _ rfl; refine pl ?_; refine blk_put (cs := #[.slice Ao41 t243.length co41, .slice none 0 0, .slice none 0 0, .int .i64 0, .int .i64 0]) ?_ 1 _ rfl; refine pl ?_; refine blk_put (cs := #[.slice none 0 0, .slice none 0 0, .slice none 0 0, .int .i64 0, .int .i64 0]) ?_ 0 _ rfl; refine pl ?_; refine blk_far ?_ NB242_254.out _; exact bx BK242.out) Try.underlying34 rfl (by kernel_rfl)) rfl ?_
  exact ⟨_, _, _, by first | rfl | (simp [errW_none, errW_some] <;> rfl) | (simp [*, errW_none, errW_some] <;> rfl), by (with_reducible repeat (first | apply Kd.R_alloc | apply Kd.R_drewN | apply Kd.R_drew)); exact Kd.R_mono (Kd.R_far (p := ⟨gb242, 4, none⟩) (Kd.R_far (p := ⟨gb242, 3, none⟩) (Kd.R_far (p := ⟨gb242, 2, none⟩) (Kd.R_far (p := ⟨gb242, 1, none⟩) (Kd.R_far (p := ⟨gb242, 0, none⟩) (Kd.R_far (p := ⟨gb254, 4, none⟩) (Kd.R_types (Kd.R_types HO245.out BK254.out (by decide)) BK242.out (by decide)) (fun _ hk => hk.1.2) (.int .i64 5)) (fun _ hk => hk.2) (.slice Ao41 t243.length co41)) (fun _ hk => hk.2) (.slice Ao45 t246.length co45)) (fun _ hk => hk.2) (.slice Ao46 t249.length co46)) (fun _ hk => hk.2) (.int .i64 t252)) (fun _ hk => hk.2) (.int .i64 5)) (fun _ hk => trivial), by (with_reducible repeat (first | apply Kd.R_alloc | apply Kd.R_drewN | apply Kd.R_drew)); exact Kd.R_mono (Kd.R_far (p := ⟨gb242, 4, none⟩) (Kd.R_far (p := ⟨gb242, 3, none⟩) (Kd.R_far (p := ⟨gb242, 2, none⟩) (Kd.R_far (p := ⟨gb242, 1, none⟩) (Kd.R_far (p := ⟨gb242, 0, none⟩) (Kd.R_far (p := ⟨gb254, 4, none⟩) (Kd.R_types (Kd.R_types HO248.out BK254.out (by decide)) BK242.out (by decide)) (fun _ hk => hk.1.2) (.int .i64 5)) (fun _ hk => hk.2) (.slice Ao41 t243.length co41)) (fun _ hk => hk.2) (.slice Ao45 t246.length co45)) (fun _ hk => hk.2) (.slice Ao46 t249.length co46)) (fun _ hk => hk.2) (.int .i64 t252)) (fun _ hk => hk.2) (.int .i64 5)) (fun _ hk => hk.1.1), by (with_reducible repeat (first | apply Kd.R_alloc | apply Kd.R_drewN | apply Kd.R_drew)); exact Kd.R_mono (Kd.R_far (p := ⟨gb242, 4, none⟩) (Kd.R_far (p := ⟨gb242, 3, none⟩) (Kd.R_far (p := ⟨gb242, 2, none⟩) (Kd.R_far (p := ⟨gb242, 1, none⟩) (Kd.R_far (p := ⟨gb242, 0, none⟩) (Kd.R_far (p := ⟨gb254, 4, none⟩) (Kd.R_types (Kd.R_types HO251.out BK254.out (by decide)) BK242.out (by decide)) (fun _ hk => hk.1.2) (.int .i64 5)) (fun _ hk => hk.2) (.slice Ao41 t243.length co41)) (fun _ hk => hk.2) (.slice Ao45 t246.length co45)) (fun _ hk => hk.2) (.slice Ao46 t249.length co46)) (fun _ hk => hk.2) (.int .i64 t252)) (fun _ hk => hk.2) (.int .i64 5)) (fun _ hk => hk.1.1), be w⟩
 subst c6
 rw [if_pos rfl] at H
 by_cases c7 : 0 ≤ a1_1
 rotate_left
 ·
  rw [if_neg c7] at H
  exact absurd H (by simp)
 rw [if_pos c7] at H
 have c7b0 : decide (0 ≤ a1_1) = true := decide_eq_true c7
 clear c7
 by_cases c8 : a1_1 < (t243.length : Int)
 rotate_left
 ·
  rw [if_neg c8] at H
  exact absurd H (by simp)
 rw [if_pos c8] at H
 have c8b0 : decide (a1_1 < (t243.length : Int)) = true := decide_eq_true c8
 clear c8
 simp only [Option.some.injEq, Prod.mk.injEq] at H
 obtain ⟨rfl, rfl, rfl, rfl, rfl, rfl⟩ := H
 go_enter Try.func33, Try.ntmps33
 try go_wp2_with (first | ((with_reducible refine gate_dst (N := 2) rfl ?_); refine box_event ?hg (N := 2) ?hd (cs := #[.slice A0_0 l0_0.length c0_0, .slice A0_1 l0_1.length c0_1, .slice A0_2 l0_2.length c0_2, .int .i64 a0_3, .int .i64 a0_4]) (t := 34) ?hr ?_; (case hd => rfl); (case hg => rfl); (case hr => first | (go_simp; done) | (go_simp; rfl)); intro gb240 hg w9 hbox hb; have BK240 := As.mk (hbox); have GW240 := As.mk (gs w hg); have GE240 := As.mk (gs w hg); replace HB := As.mk (below_step (be w) hb); clear hb hbox hg) | ((with_reducible refine gate_dst (N := 3) rfl ?_); refine box_event ?hg (N := 3) ?hd (cs := #[.int .i64 a1_0, .int .i64 a1_1]) (t := 37) ?hr ?_; (case hd => rfl); (case hg => rfl); (case hr => first | (go_simp; done) | (go_simp; rfl)); intro gb241 hg w10 hbox hb; have BK241 := As.mk (hbox); have GW241 := As.mk (gs w hg); have GE241 := As.mk (gs w hg); replace HB := As.mk (below_step (be w) hb); have NB240_241 := As.mk (nl hg (bx BK240.out)); have NB241_240 := As.mk (ng hg (bx BK240.out)); replace BK240 := As.mk (blk_below (bx BK240.out) hb); clear hb hbox hg) | ((with_reducible refine gate_dst (N := 4) rfl ?_); refine box_event ?hg (N := 4) ?hd (cs := #[.slice none 0 0, .slice none 0 0, .slice none 0 0, .int .i64 0, .int .i64 0]) (t := 34) ?hr ?_; (case hd => rfl); (case hg => rfl); (case hr => first | (go_simp; done) | (go_simp; rfl)); intro gb242 hg w11 hbox hb; have BK242 := As.mk (hbox); have GW242 := As.mk (gs w hg); have GE242 := As.mk (gs w hg); replace HB := As.mk (below_step (be w) hb); have NB240_242 := As.mk (nl hg (bx BK240.out)); have NB242_240 := As.mk (ng hg (bx BK240.out)); replace BK240 := As.mk (blk_below (bx BK240.out) hb); have NB241_242 := As.mk (nl hg (bx BK241.out)); have NB242_241 := As.mk (ng hg (bx BK241.out)); replace BK241 := As.mk (blk_below (bx BK241.out) hb); clear hb hbox hg; have hnb12 := NB240_241.out; have hnc12 := NB241_240.out; have hnb13 := NB240_242.out; have hnc13 := NB242_240.out; obtain ⟨hcz14_0, hcz14_1, hcz14_2, hcz14_3, hcz14_4, hfz14_0, hfz14_1, hfz14_2, hfz14_3, hfz14_4⟩ := cl5 BK240.out) | ((with_reducible refine gate_callee (f := 50) rfl ?_); refine goesL_ (some 9) rfl rfl Try.func50 (by kernel_rfl) rfl #[.agg #[.slice A0_0 l0_0.length c0_0, .slice A0_1 l0_1.length c0_1, .slice A0_2 l0_2.length c0_2, .int .i64 a0_3, .int .i64 a0_4]] rfl (by (try simp only [lm]); first | done | rfl | (simp only [List.length_drop, List.length_take]; rfl)) ?_; (with_reducible refine (spec_l09Copy.calls _ _ l0_0 _ _ l0_1 _ _ l0_2 a0_3 a0_4 t243 t246 t249 t252 t253 _ ?side1 ?side2 ?side3 ?side4 ?side5 ?side6 A3.out).mono ?_); (case side1 => exact Kd.C_below HR0_0.out (be w)); (case side2 => exact HC0_0.out); (case side3 => exact Kd.C_below HR0_1.out (be w)); (case side4 => exact HC0_1.out); (case side5 => exact Kd.C_below HR0_2.out (be w)); (case side6 => exact HC0_2.out); rintro e w15 ⟨v244, v247, v250, rfl, ho0, ho1, ho2, hb⟩; refine ⟨_, rfl, ?_⟩; have HO245 := As.mk (Kd.R_lower ho0 (below_size (be w))); have HO248 := As.mk (Kd.R_lower ho1 (below_size (be w))); have HO251 := As.mk (Kd.R_lower ho2 (below_size (be w))); replace BK241 := As.mk (blk_below (bx BK241.out) hb); replace BK242 := As.mk (blk_below (bx BK242.out) hb); replace HB := As.mk (below_step (be w) hb); (try clear hb); (try clear hb2); (try clear hk); (try clear hi); (try clear ho0); (try clear ho1); (try clear ho2)) | ((with_reducible refine gate_dst (N := 6) rfl ?_); refine box_event ?hg (N := 6) ?hd (cs := #[.slice none 0 0, .slice none 0 0, .slice none 0 0, .int .i64 0, .int .i64 0]) (t := 34) ?hr ?_; (case hd => rfl); (case hg => rfl); (case hr => first | (go_simp; done) | (go_simp; rfl)); intro gb254 hg w16 hbox hb; replace HO245 := As.mk (Kd.R_below (by (with_reducible repeat (first | apply Kd.R_alloc | apply Kd.R_drewN | apply Kd.R_drew)); exact HO245.out) hb); replace HO248 := As.mk (Kd.R_below (by (with_reducible repeat (first | apply Kd.R_alloc | apply Kd.R_drewN | apply Kd.R_drew)); exact HO248.out) hb); replace HO251 := As.mk (Kd.R_below (by (with_reducible repeat (first | apply Kd.R_alloc | apply Kd.R_drewN | apply Kd.R_drew)); exact HO251.out) hb); have BK254 := As.mk (hbox); have GW254 := As.mk (gs w hg); have GE254 := As.mk (gs w hg); replace HB := As.mk (below_step (be w) hb); have NB241_254 := As.mk (nl hg (bx BK241.out)); have NB254_241 := As.mk (ng hg (bx BK241.out)); replace BK241 := As.mk (blk_below (bx BK241.out) hb); have NB242_254 := As.mk (nl hg (bx BK242.out)); have NB254_242 := As.mk (ng hg (bx BK242.out)); replace BK242 := As.mk (blk_below (bx BK242.out) hb); clear hb hbox hg; obtain ⟨Ao17, co17, eo17⟩ := Kd.R_slice HO245.out; subst eo17; have hnb18 := NB254_241.out; have hnc18 := NB241_254.out; have hnb19 := NB254_242.out; have hnc19 := NB242_254.out; obtain ⟨hcz20_0, hcz20_1, hcz20_2, hcz20_3, hcz20_4, hfz20_0, hfz20_1, hfz20_2, hfz20_3, hfz20_4⟩ := cl5 BK254.out; obtain ⟨Ao21, co21, eo21⟩ := Kd.R_slice HO248.out; subst eo21; obtain ⟨Ao22, co22, eo22⟩ := Kd.R_slice HO251.out; subst eo22; have hnb23 := NB241_242.out; have hnc23 := NB242_241.out; obtain ⟨hcz24_0, hcz24_1, hfz24_0, hfz24_1⟩ := cl2 BK241.out) | (go_at_call 63; go_in) | ((with_reducible refine gate_dst (N := 3) rfl ?_); refine box_event ?hg (N := 3) ?hd (cs := #[.int .i64 a1_0, .int .i64 a1_1]) (t := 37) ?hr ?_; (case hd => rfl); (case hg => rfl); (case hr => first | (go_simp; done) | (go_simp; rfl)); intro gb255 hg w25 hbox hb; replace HO245 := As.mk (Kd.R_below (by (with_reducible repeat (first | apply Kd.R_alloc | apply Kd.R_drewN | apply Kd.R_drew)); (have z_ := R_far5 HO245.out BK254.out (by decide)); with_reducible exact z_ _ _ _ _ _) hb); replace HO248 := As.mk (Kd.R_below (by (with_reducible repeat (first | apply Kd.R_alloc | apply Kd.R_drewN | apply Kd.R_drew)); (have z_ := R_far5 HO248.out BK254.out (by decide)); with_reducible exact z_ _ _ _ _ _) hb); replace HO251 := As.mk (Kd.R_below (by (with_reducible repeat (first | apply Kd.R_alloc | apply Kd.R_drewN | apply Kd.R_drew)); (have z_ := R_far5 HO251.out BK254.out (by decide)); with_reducible exact z_ _ _ _ _ _) hb); have BK255 := As.mk (hbox); have GW255 := As.mk (gs w hg); have GE255 := As.mk (gs w hg); replace HB := As.mk (below_step (be w) hb); have NB241_255 := As.mk ((by rw [hg]; exact Nat.ne_of_lt (blk_lt (g := gb241) (o := .cells #[.int .i64 a1_0, .int .i64 a1_1] 37 (0, 0)) (by refine pl ?_; refine blk_far ?_ NB241_254.out _; refine pl ?_; refine blk_far ?_ NB241_254.out _; refine pl ?_; refine blk_far ?_ NB241_254.out _; refine pl ?_; refine blk_far ?_ NB241_254.out _; refine pl ?_; refine blk_far ?_ NB241_254.out _; exact bx BK241.out)) : gb241 ≠ gb255)); have NB255_241 := As.mk ((by rw [hg]; exact Nat.ne_of_gt (blk_lt (g := gb241) (o := .cells #[.int .i64 a1_0, .int .i64 a1_1] 37 (0, 0)) (by refine pl ?_; refine blk_far ?_ NB241_254.out _; refine pl ?_; refine blk_far ?_ NB241_254.out _; refine pl ?_; refine blk_far ?_ NB241_254.out _; refine pl ?_; refine blk_far ?_ NB241_254.out _; refine pl ?_; refine blk_far ?_ NB241_254.out _; exact bx BK241.out)) : gb255 ≠ gb241)); replace BK241 := As.mk (blk_below (g := gb241) (o := .cells #[.int .i64 a1_0, .int .i64 a1_1] 37 (0, 0)) (by refine pl ?_; refine blk_far ?_ NB241_254.out _; refine pl ?_; refine blk_far ?_ NB241_254.out _; refine pl ?_; refine blk_far ?_ NB241_254.out _; refine pl ?_; refine blk_far ?_ NB241_254.out _; refine pl ?_; refine blk_far ?_ NB241_254.out _; exact bx BK241.out) hb); have NB242_255 := As.mk ((by rw [hg]; exact Nat.ne_of_lt (blk_lt (g := gb242) (o := .cells #[.slice none 0 0, .slice none 0 0, .slice none 0 0, .int .i64 0, .int .i64 0] 34 (0, 0)) (by refine pl ?_; refine blk_far ?_ NB242_254.out _; refine pl ?_; refine blk_far ?_ NB242_254.out _; refine pl ?_; refine blk_far ?_ NB242_254.out _; refine pl ?_; refine blk_far ?_ NB242_254.out _; refine pl ?_; refine blk_far ?_ NB242_254.out _; exact bx BK242.out)) : gb242 ≠ gb255)); have NB255_242 := As.mk ((by rw [hg]; exact Nat.ne_of_gt (blk_lt (g := gb242) (o := .cells #[.slice none 0 0, .slice none 0 0, .slice none 0 0, .int .i64 0, .int .i64 0] 34 (0, 0)) (by refine pl ?_; refine blk_far ?_ NB242_254.out _; refine pl ?_; refine blk_far ?_ NB242_254.out _; refine pl ?_; refine blk_far ?_ NB242_254.out _; refine pl ?_; refine blk_far ?_ NB242_254.out _; refine pl ?_; refine blk_far ?_ NB242_254.out _; exact bx BK242.out)) : gb255 ≠ gb242)); replace BK242 := As.mk (blk_below (g := gb242) (o := .cells #[.slice none 0 0, .slice none 0 0, .slice none 0 0, .int .i64 0, .int .i64 0] 34 (0, 0)) (by refine pl ?_; refine blk_far ?_ NB242_254.out _; refine pl ?_; refine blk_far ?_ NB242_254.out _; refine pl ?_; refine blk_far ?_ NB242_254.out _; refine pl ?_; refine blk_far ?_ NB242_254.out _; refine pl ?_; refine blk_far ?_ NB242_254.out _; exact bx BK242.out) hb); have NB254_255 := As.mk ((by rw [hg]; exact Nat.ne_of_lt (blk_lt (g := gb254) (o := .cells #[.slice Ao17 t243.length co17, .slice Ao21 t246.length co21, .slice Ao22 t249.length co22, .int .i64 t252, .int .i64 t253] 34 (0, 0)) (by refine pl ?_; refine blk_put (cs := #[.slice Ao17 t243.length co17, .slice Ao21 t246.length co21, .slice Ao22 t249.length co22, .int .i64 t252, .int .i64 0]) ?_ 4 _ rfl; refine pl ?_; refine blk_put (cs := #[.slice Ao17 t243.length co17, .slice Ao21 t246.length co21, .slice Ao22 t249.length co22, .int .i64 0, .int .i64 0]) ?_ 3 _ rfl; refine pl ?_; refine blk_put (cs := #[.slice Ao17 t243.length co17, .slice Ao21 t246.length co21, .slice none 0 0, .int .i64 0, .int .i64 0]) ?_ 2 _ rfl; refine pl ?_; refine blk_put (cs := #[.slice Ao17 t243.length co17, .slice none 0 0, .slice none 0 0, .int .i64 0, .int .i64 0]) ?_ 1 _ rfl; refine pl ?_; refine blk_put (cs := #[.slice none 0 0, .slice none 0 0, .slice none 0 0, .int .i64 0, .int .i64 0]) ?_ 0 _ rfl; exact bx BK254.out)) : gb254 ≠ gb255)); have NB255_254 := As.mk ((by rw [hg]; exact Nat.ne_of_gt (blk_lt (g := gb254) (o := .cells #[.slice Ao17 t243.length co17, .slice Ao21 t246.length co21, .slice Ao22 t249.length co22, .int .i64 t252, .int .i64 t253] 34 (0, 0)) (by refine pl ?_; refine blk_put (cs := #[.slice Ao17 t243.length co17, .slice Ao21 t246.length co21, .slice Ao22 t249.length co22, .int .i64 t252, .int .i64 0]) ?_ 4 _ rfl; refine pl ?_; refine blk_put (cs := #[.slice Ao17 t243.length co17, .slice Ao21 t246.length co21, .slice Ao22 t249.length co22, .int .i64 0, .int .i64 0]) ?_ 3 _ rfl; refine pl ?_; refine blk_put (cs := #[.slice Ao17 t243.length co17, .slice Ao21 t246.length co21, .slice none 0 0, .int .i64 0, .int .i64 0]) ?_ 2 _ rfl; refine pl ?_; refine blk_put (cs := #[.slice Ao17 t243.length co17, .slice none 0 0, .slice none 0 0, .int .i64 0, .int .i64 0]) ?_ 1 _ rfl; refine pl ?_; refine blk_put (cs := #[.slice none 0 0, .slice none 0 0, .slice none 0 0, .int .i64 0, .int .i64 0]) ?_ 0 _ rfl; exact bx BK254.out)) : gb255 ≠ gb254)); replace BK254 := As.mk (blk_below (g := gb254) (o := .cells #[.slice Ao17 t243.length co17, .slice Ao21 t246.length co21, .slice Ao22 t249.length co22, .int .i64 t252, .int .i64 t253] 34 (0, 0)) (by refine pl ?_; refine blk_put (cs := #[.slice Ao17 t243.length co17, .slice Ao21 t246.length co21, .slice Ao22 t249.length co22, .int .i64 t252, .int .i64 0]) ?_ 4 _ rfl; refine pl ?_; refine blk_put (cs := #[.slice Ao17 t243.length co17, .slice Ao21 t246.length co21, .slice Ao22 t249.length co22, .int .i64 0, .int .i64 0]) ?_ 3 _ rfl; refine pl ?_; refine blk_put (cs := #[.slice Ao17 t243.length co17, .slice Ao21 t246.length co21, .slice none 0 0, .int .i64 0, .int .i64 0]) ?_ 2 _ rfl; refine pl ?_; refine blk_put (cs := #[.slice Ao17 t243.length co17, .slice none 0 0, .slice none 0 0, .int .i64 0, .int .i64 0]) ?_ 1 _ rfl; refine pl ?_; refine blk_put (cs := #[.slice none 0 0, .slice none 0 0, .slice none 0 0, .int .i64 0, .int .i64 0]) ?_ 0 _ rfl; exact bx BK254.out) hb); clear hb hbox hg; have hnb26 := NB254_255.out; have hnc26 := NB255_254.out; obtain ⟨hcz27_0, hcz27_1, hcz27_2, hcz27_3, hcz27_4, hfz27_0, hfz27_1, hfz27_2, hfz27_3, hfz27_4⟩ := cl5 BK254.out))
 replace HO245 := As.mk (Kd.R_drew HO245.out)
 replace HO248 := As.mk (Kd.R_drew HO248.out)
 replace HO251 := As.mk (Kd.R_drew HO251.out)
 replace BK242 := As.mk (blk_drew BK242.out)
 replace BK254 := As.mk (blk_drew BK254.out)
 replace BK255 := As.mk (blk_drew BK255.out)
 replace HB := As.mk (below_drew1 HB.out)
 refine start_ (n := 6) (S := fun w' => w'.cell? ⟨gb254, 0, none⟩ = some (.slice Ao17 t243.length co17) ∧ w'.cell? ⟨gb254, 1, none⟩ = some (.slice Ao21 t246.length co21) ∧ w'.cell? ⟨gb254, 2, none⟩ = some (.slice Ao22 t249.length co22) ∧ w'.cell? ⟨gb254, 3, none⟩ = some (.int .i64 t252) ∧ w'.cell? ⟨gb254, 4, none⟩ = some (.int .i64 t253) ∧ w'.cell? ⟨gb255, 0, none⟩ = some (.int .i64 a1_0) ∧ w'.cell? ⟨gb255, 1, none⟩ = some (.int .i64 a1_1)) (ds := []) #[O, O, O, O, O, O] (by kernel_rfl) rfl rfl ⟨(blk_cell BK254.out 0).trans rfl, (blk_cell BK254.out 1).trans rfl, (blk_cell BK254.out 2).trans rfl, (blk_cell BK254.out 3).trans rfl, (blk_cell BK254.out 4).trans rfl, (blk_cell BK255.out 0).trans rfl, (blk_cell BK255.out 1).trans rfl⟩ (fun hHeld => ?_)
 generalize w25.drew = w28 at HO245 HO248 HO251 BK242 BK254 BK255 HB hHeld ⊢
 refine pure_ (i := 0) (N := some 10) (v := ?_) (a' := ?_) #[I, O, O, O, O, O] rfl rfl (by kernel_rfl) (fun _ _ _ h => h) (Or.inl ⟨by rfl, ?_⟩) ?_ ?_
 rotate_left
 ·
  intro w'
  go_simp
  with_reducible rfl
 rotate_left
 ·
  simp only [pk, i64_w, i32_w]
  rfl
 refine pure_ (i := 1) (N := some 11) (v := ?_) (a' := ?_) #[I, I, O, O, O, O] rfl rfl (by kernel_rfl) (fun _ _ _ h => h) (Or.inl ⟨by rfl, ?_⟩) ?_ ?_
 rotate_left
 ·
  intro w'
  go_simp
  with_reducible rfl
 rotate_left
 ·
  simp only [pk, i64_w, i32_w]
  rfl
 refine take_ (i := 2) (N := some 12) (v := ?_) (a' := ?_) #[I, I, I, O, O, O] rfl rfl (by kernel_rfl) (fun _ _ _ h => h) (Or.inl ⟨by rfl, ?_⟩) hHeld ?_ ?_
 rotate_left
 ·
  rintro w' ⟨s0, s1, s2, s3, s4, s5, s6⟩
  go_simp
  with_reducible rfl
 rotate_left
 ·
  simp only [pk, i64_w, i32_w]
  rfl
 refine take_ (i := 3) (N := some 13) (v := ?_) (a' := ?_) #[I, I, I, I, O, O] rfl rfl (by kernel_rfl) (fun _ _ _ h => h) (Or.inl ⟨by rfl, ?_⟩) hHeld ?_ ?_
 rotate_left
 ·
  rintro w' ⟨s0, s1, s2, s3, s4, s5, s6⟩
  go_simp
  with_reducible rfl
 rotate_left
 ·
  simp only [pk, i64_w, i32_w]
  rfl
 refine one_ (i := 4) (N := some 14) #[I, I, I, I, I, O] rfl rfl (by kernel_rfl) (by decide) (fun K hK => ?_)
 refine goes_ Try.func75 (by kernel_rfl) rfl #[.agg #[.slice Ao17 t243.length co17, .slice Ao21 t246.length co21, .slice Ao22 t249.length co22, .int .i64 t252, .int .i64 t253], .agg #[.int .i64 a1_0, .int .i64 a1_1]] (by rfl) rfl rfl (by (try simp only [lm]); first | done | rfl | (simp only [List.length_drop, List.length_take]; rfl)) ?_
 with_reducible refine (spec_l09Live.calls _ _ t243 _ _ t246 _ _ t249 t252 t253 a1_0 a1_1 true _ ?side1 ?side2 ?side3 ?side4 ?side5 ?side6 A5.out).mono ?_
 (case side1 => repeat (first | exact (Kd.R_reads' HO245.out).2.2 | (with_reducible refine Kd.C_alloc ?_ _) | (with_reducible refine Kd.C_drewN ?_ _) | (with_reducible refine Kd.C_drew ?_)))
 (case side2 => exact (Kd.R_reads' HO245.out).2.1)
 (case side3 => repeat (first | exact (Kd.R_reads' HO248.out).2.2 | (with_reducible refine Kd.C_alloc ?_ _) | (with_reducible refine Kd.C_drewN ?_ _) | (with_reducible refine Kd.C_drew ?_)))
 (case side4 => exact (Kd.R_reads' HO248.out).2.1)
 (case side5 => repeat (first | exact (Kd.R_reads' HO251.out).2.2 | (with_reducible refine Kd.C_alloc ?_ _) | (with_reducible refine Kd.C_drewN ?_ _) | (with_reducible refine Kd.C_drew ?_)))
 (case side6 => exact (Kd.R_reads' HO251.out).2.1)
 rintro e w29 ⟨rfl, hb⟩
 refine ⟨_, rfl, ?_⟩
 replace HO245 := As.mk (Kd.R_below (by (with_reducible repeat (first | apply Kd.R_alloc | apply Kd.R_drewN | apply Kd.R_drew)); exact HO245.out) hb)
 replace HO248 := As.mk (Kd.R_below (by (with_reducible repeat (first | apply Kd.R_alloc | apply Kd.R_drewN | apply Kd.R_drew)); exact HO248.out) hb)
 replace HO251 := As.mk (Kd.R_below (by (with_reducible repeat (first | apply Kd.R_alloc | apply Kd.R_drewN | apply Kd.R_drew)); exact HO251.out) hb)
 replace BK242 := As.mk (blk_below (bx BK242.out) hb)
 replace BK254 := As.mk (blk_below (bx BK254.out) hb)
 replace BK255 := As.mk (blk_below (bx BK255.out) hb)
 replace HB := As.mk (below_step (be w) hb)
 (try clear hb)
 (try clear hb2)
 (try clear hk)
 (try clear hi)
 refine hK.out _ _ ⟨(blk_cell BK254.out 0).trans rfl, (blk_cell BK254.out 1).trans rfl, (blk_cell BK254.out 2).trans rfl, (blk_cell BK254.out 3).trans rfl, (blk_cell BK254.out 4).trans rfl, (blk_cell BK255.out 0).trans rfl, (blk_cell BK255.out 1).trans rfl⟩ (fun hHeld => ?_)
 clear hK K
 refine norm_ (a' := ?_) ?_ ?_
 rotate_left
 ·
  show Act.put _ (some 14) _ = _
  simp only [pk, i64_w, i32_w]
  rfl
 refine pure_ (i := 5) (N := some 15) (v := ?_) (a' := ?_) #[I, I, I, I, I, I] rfl rfl (by kernel_rfl) (fun _ _ _ h => h) (Or.inl ⟨by rfl, ?_⟩) ?_ ?_
 rotate_left
 ·
  intro w'
  go_simp
  with_reducible rfl
 rotate_left
 ·
  simp only [pk, i64_w, i32_w]
  rfl
 refine done_ (by kernel_rfl) ?_
 try go_wp2
 replace HO245 := As.mk (Kd.R_drew HO245.out)
 replace HO248 := As.mk (Kd.R_drew HO248.out)
 replace HO251 := As.mk (Kd.R_drew HO251.out)
 replace BK242 := As.mk (blk_drew BK242.out)
 replace BK254 := As.mk (blk_drew BK254.out)
 replace BK255 := As.mk (blk_drew BK255.out)
 replace HB := As.mk (below_drew1 HB.out)
 have p257 : 0 ≤ (a1_1 : Int) := of_decide_eq_true (by first | (with_reducible assumption) | assumption)
 have q257 : a1_1 < (t243.length : Int) := of_decide_eq_true (by first | (with_reducible assumption) | assumption)
 obtain ⟨ad257, e257, hx257_0, hx257_1⟩ := at_T93 (Kd.R_reads' HO245.out).2.2 a1_1 p257 q257
 cases e257
 replace p257 := eq_true p257
 replace q257 := eq_true q257
 refine start_ (n := 10) (S := fun w' => w'.cell? ⟨gb254, 0, none⟩ = some (.slice (some ad257) t243.length co17) ∧ w'.cell? ⟨gb254, 1, none⟩ = some (.slice Ao21 t246.length co21) ∧ w'.cell? ⟨gb254, 2, none⟩ = some (.slice Ao22 t249.length co22) ∧ w'.cell? ⟨gb254, 3, none⟩ = some (.int .i64 t252) ∧ w'.cell? ⟨gb254, 4, none⟩ = some (.int .i64 t253) ∧ w'.cell? ⟨gb255, 0, none⟩ = some (.int .i64 a1_0) ∧ w'.cell? ⟨gb255, 1, none⟩ = some (.int .i64 a1_1) ∧ w'.cell? (ad257.add ((a1_1).toNat * 2)) = some (.bool ((rd_T93 t243 a1_1).f0)) ∧ w'.cell? ⟨(ad257.add ((a1_1).toNat * 2)).block, (ad257.add ((a1_1).toNat * 2)).off + 1, none⟩ = some (.int .i64 ((rd_T93 t243 a1_1).f1))) (ds := []) #[O, O, O, O, O, O, O, O, O, O] (by kernel_rfl) rfl rfl ⟨(blk_cell BK254.out 0).trans rfl, (blk_cell BK254.out 1).trans rfl, (blk_cell BK254.out 2).trans rfl, (blk_cell BK254.out 3).trans rfl, (blk_cell BK254.out 4).trans rfl, (blk_cell BK255.out 0).trans rfl, (blk_cell BK255.out 1).trans rfl, hx257_0, hx257_1⟩ (fun hHeld => ?_)
 generalize w29.drew = w30 at HO245 HO248 HO251 BK242 BK254 BK255 HB hx257_0 hx257_1 hHeld ⊢
 refine pure_ (i := 0) (N := some 19) (v := ?_) (a' := ?_) #[I, O, O, O, O, O, O, O, O, O] rfl rfl (by kernel_rfl) (fun _ _ _ h => h) (Or.inl ⟨by rfl, ?_⟩) ?_ ?_
 rotate_left
 ·
  intro w'
  go_simp
  with_reducible rfl
 rotate_left
 ·
  simp only [pk, i64_w, i32_w]
  rfl
 refine pure_ (i := 1) (N := some 20) (v := ?_) (a' := ?_) #[I, I, O, O, O, O, O, O, O, O] rfl rfl (by kernel_rfl) (fun _ _ _ h => h) (Or.inl ⟨by rfl, ?_⟩) ?_ ?_
 rotate_left
 ·
  intro w'
  go_simp
  with_reducible rfl
 rotate_left
 ·
  simp only [pk, i64_w, i32_w]
  rfl
 refine pure_ (i := 2) (N := some 21) (v := ?_) (a' := ?_) #[I, I, I, O, O, O, O, O, O, O] rfl rfl (by kernel_rfl) (fun _ _ _ h => h) (Or.inl ⟨by rfl, ?_⟩) ?_ ?_
 rotate_left
 ·
  intro w'
  go_simp
  with_reducible rfl
 rotate_left
 ·
  simp only [pk, i64_w, i32_w]
  rfl
 refine pure_ (i := 4) (N := some 23) (v := ?_) (a' := ?_) #[I, I, I, O, I, O, O, O, O, O] rfl rfl (by kernel_rfl) (fun _ _ _ h => h) (Or.inl ⟨by rfl, ?_⟩) ?_ ?_
 rotate_left
 ·
  intro w'
  go_simp
  with_reducible rfl
 rotate_left
 ·
  simp only [pk, i64_w, i32_w]
  rfl
 refine take_ (i := 3) (N := some 22) (v := ?_) (a' := ?_) #[I, I, I, I, I, O, O, O, O, O] rfl rfl (by kernel_rfl) (fun _ _ _ h => h) (Or.inl ⟨by rfl, ?_⟩) hHeld ?_ ?_
 rotate_left
 ·
  rintro w' ⟨s0, s1, s2, s3, s4, s5, s6, s7, s8⟩
  go_simp
  with_reducible rfl
 rotate_left
 ·
  simp only [pk, i64_w, i32_w]
  rfl
 refine take_ (i := 5) (N := some 24) (v := ?_) (a' := ?_) #[I, I, I, I, I, I, O, O, O, O] rfl rfl (by kernel_rfl) (fun _ _ _ h => h) (Or.inl ⟨by rfl, ?_⟩) hHeld ?_ ?_
 rotate_left
 ·
  rintro w' ⟨s0, s1, s2, s3, s4, s5, s6, s7, s8⟩
  go_simp
  with_reducible rfl
 rotate_left
 ·
  simp only [pk, i64_w, i32_w]
  rfl
 refine pure_ (i := 6) (N := some 25) (v := ?_) (a' := ?_) #[I, I, I, I, I, I, I, O, O, O] rfl rfl (by kernel_rfl) (fun _ _ _ h => h) (Or.inl ⟨by rfl, ?_⟩) ?_ ?_
 rotate_left
 ·
  intro w'
  go_simp
  with_reducible rfl
 rotate_left
 ·
  simp only [pk, i64_w, i32_w]
  rfl
 refine pure_ (i := 7) (N := some 26) (v := ?_) (a' := ?_) #[I, I, I, I, I, I, I, I, O, O] rfl rfl (by kernel_rfl) (fun _ _ _ h => h) (Or.inl ⟨by rfl, ?_⟩) ?_ ?_
 rotate_left
 ·
  intro w'
  go_simp
  with_reducible rfl
 rotate_left
 ·
  simp only [pk, i64_w, i32_w]
  rfl
 refine take_ (i := 8) (N := some 27) (v := ?_) (a' := ?_) #[I, I, I, I, I, I, I, I, I, O] rfl rfl (by kernel_rfl) (fun _ _ _ h => h) (Or.inl ⟨by rfl, ?_⟩) hHeld ?_ ?_
 rotate_left
 ·
  rintro w' ⟨s0, s1, s2, s3, s4, s5, s6, s7, s8⟩
  go_simp
  with_reducible rfl
 rotate_left
 ·
  simp only [pk, i64_w, i32_w]
  rfl
 refine pure_ (i := 9) (N := some 4) (v := ?_) (a' := ?_) #[I, I, I, I, I, I, I, I, I, I] rfl rfl (by kernel_rfl) (fun _ _ _ h => h) (Or.inl ⟨by rfl, ?_⟩) ?_ ?_
 rotate_left
 ·
  intro w'
  go_simp
  with_reducible rfl
 rotate_left
 ·
  simp only [pk, i64_w, i32_w]
  rfl
 refine done_ (by kernel_rfl) ?_
 obtain ⟨hcz31_0, hcz31_1, hcz31_2, hcz31_3, hcz31_4, hfz31_0, hfz31_1, hfz31_2, hfz31_3, hfz31_4⟩ := cl5 BK254.out
 obtain ⟨hcz32_0, hcz32_1, hcz32_2, hcz32_3, hcz32_4, hfz32_0, hfz32_1, hfz32_2, hfz32_3, hfz32_4⟩ := cl5 BK242.out
 try go_wp2_with (first | (with_reducible show bodyPost Try.prog Try.f63 _ _ _ _; (try simp only [Exit.inBlock, Exit.then]); refine bodyPost_ret (results_tmp rfl _ _ _) rfl ?_; simp only []; go_at_K; (try ((first | refine lay_top (by go_cell_look) ?_ | refine lay_top1 (by go_cell_look) ?_ | refine lay_top2 (by go_cell_look) ?_); intro hlay_))))
 refine bodyPost_ret (results_ct rfl _ _ gb242 34 #[.slice (some ad257) t243.length co17, .slice Ao21 t246.length co21, .slice Ao22 t249.length co22, .int .i64 t252, .int .i64 t253] (0, 0) _ rfl (by refine pl ?_; refine blk_put (cs := #[.slice (some ad257) t243.length co17, .slice Ao21 t246.length co21, .slice Ao22 t249.length co22, .int .i64 t252, .int .i64 0]) ?_ 4 _ rfl; refine pl ?_; refine blk_put (cs := #[.slice (some ad257) t243.length co17, .slice Ao21 t246.length co21, .slice Ao22 t249.length co22, .int .i64 0, .int .i64 0]) ?_ 3 _ rfl; refine pl ?_; refine blk_put (cs := #[.slice (some ad257) t243.length co17, .slice Ao21 t246.length co21, .slice none 0 0, .int .i64 0, .int .i64 0]) ?_ 2 _ rfl; refine pl ?_; refine blk_put (cs := #[.slice (some ad257) t243.length co17, .slice none 0 0, .slice none 0 0, .int .i64 0, .int .i64 0]) ?_ 1 _ rfl; refine pl ?_; refine blk_put (cs := #[.slice none 0 0, .slice none 0 0, .slice none 0 0, .int .i64 0, .int .i64 0]) ?_ 0 _ rfl; exact bx BK242.out) Try.underlying34 rfl (by kernel_rfl)) rfl ?_
 exact ⟨_, _, _, by first | rfl | (simp [errW_none, errW_some] <;> rfl) | (simp [*, errW_none, errW_some] <;> rfl), by (with_reducible repeat (first | apply Kd.R_alloc | apply Kd.R_drewN | apply Kd.R_drew)); exact Kd.R_mono (Kd.R_far (p := ⟨gb242, 4, none⟩) (Kd.R_far (p := ⟨gb242, 3, none⟩) (Kd.R_far (p := ⟨gb242, 2, none⟩) (Kd.R_far (p := ⟨gb242, 1, none⟩) (Kd.R_far (p := ⟨gb242, 0, none⟩) (Kd.R_types HO245.out BK242.out (by decide)) (fun _ hk => hk.2) (.slice (some ad257) t243.length co17)) (fun _ hk => hk.2) (.slice Ao21 t246.length co21)) (fun _ hk => hk.2) (.slice Ao22 t249.length co22)) (fun _ hk => hk.2) (.int .i64 t252)) (fun _ hk => hk.2) (.int .i64 t253)) (fun _ hk => trivial), by (with_reducible repeat (first | apply Kd.R_alloc | apply Kd.R_drewN | apply Kd.R_drew)); exact Kd.R_mono (Kd.R_far (p := ⟨gb242, 4, none⟩) (Kd.R_far (p := ⟨gb242, 3, none⟩) (Kd.R_far (p := ⟨gb242, 2, none⟩) (Kd.R_far (p := ⟨gb242, 1, none⟩) (Kd.R_far (p := ⟨gb242, 0, none⟩) (Kd.R_types HO248.out BK242.out (by decide)) (fun _ hk => hk.2) (.slice (some ad257) t243.length co17)) (fun _ hk => hk.2) (.slice Ao21 t246.length co21)) (fun _ hk => hk.2) (.slice Ao22 t249.length co22)) (fun _ hk => hk.2) (.int .i64 t252)) (fun _ hk => hk.2) (.int .i64 t253)) (fun _ hk => hk.1), by (with_reducible repeat (first | apply Kd.R_alloc | apply Kd.R_drewN | apply Kd.R_drew)); exact Kd.R_mono (Kd.R_far (p := ⟨gb242, 4, none⟩) (Kd.R_far (p := ⟨gb242, 3, none⟩) (Kd.R_far (p := ⟨gb242, 2, none⟩) (Kd.R_far (p := ⟨gb242, 1, none⟩) (Kd.R_far (p := ⟨gb242, 0, none⟩) (Kd.R_types HO251.out BK242.out (by decide)) (fun _ hk => hk.2) (.slice (some ad257) t243.length co17)) (fun _ hk => hk.2) (.slice Ao21 t246.length co21)) (fun _ hk => hk.2) (.slice Ao22 t249.length co22)) (fun _ hk => hk.2) (.int .i64 t252)) (fun _ hk => hk.2) (.int .i64 t253)) (fun _ hk => hk.1), be w⟩
/-! ### laws_FnExactLooked: function 8 -/
mutual
def laws_FnExactLooked.j0 : Nat → List (S98) → List Int → List Int → Int → Int → Int → Int → Option (Bool)
 | 0, _, _, _, _, _, _, _ => none
 | k + 1, x259000, x259001, x259002, x259003, x259004, x260000, x260001 => (laws_toMemory.f k x259000 x259001 x259002 x259003 x259004).bind fun bt261 => ((laws_toValue.f x260000 x260001).bind fun bt272 => ((spec_Looked.f bt261.1 bt261.2.1 bt261.2.2.1 bt261.2.2.2.1 bt261.2.2.2.2 bt272.1 bt272.2).bind fun bt274 => ((laws_toMemory.f k x259000 x259001 x259002 x259003 x259004).bind fun bt287 => ((laws_toValue.f x260000 x260001).bind fun bt299 => ((impl_Looked.f bt287.1 bt287.2.1 bt287.2.2.1 bt287.2.2.2.1 bt287.2.2.2.2 bt299.1 bt299.2).bind fun bt301 => ((laws_eqMemory.f k bt301.1 bt301.2.1 bt301.2.2.1 bt301.2.2.2.1 bt301.2.2.2.2.1 bt274.1 bt274.2.1 bt274.2.2.1 bt274.2.2.2.1 bt274.2.2.2.2.1).bind fun t314 => (if t314 = true then (laws_FnExactLooked.j1 k bt274.2.2.2.2.2 bt301.2.2.2.2.2 (bt301.2.2.2.2.2 != bt274.2.2.2.2.2) x259000 x259001 x259002 x259003 x259004 x260000 x260001 bt274.1 bt274.2.1 bt274.2.2.1 bt274.2.2.2.1 bt274.2.2.2.2.1 bt287.1 bt287.2.1 bt287.2.2.1 bt287.2.2.2.1 bt287.2.2.2.2 bt301.1 bt301.2.1 bt301.2.2.1 bt301.2.2.2.1 bt301.2.2.2.2.1) else (laws_FnExactLooked.j1 k bt274.2.2.2.2.2 bt301.2.2.2.2.2 true x259000 x259001 x259002 x259003 x259004 x260000 x260001 bt274.1 bt274.2.1 bt274.2.2.1 bt274.2.2.2.1 bt274.2.2.2.2.1 bt287.1 bt287.2.1 bt287.2.2.1 bt287.2.2.2.1 bt287.2.2.2.2 bt301.1 bt301.2.1 bt301.2.2.1 bt301.2.2.2.1 bt301.2.2.2.2.1))))))))
def laws_FnExactLooked.j1 : Nat → Int → Int → Bool → List (S98) → List Int → List Int → Int → Int → Int → Int → List (S93) → List Int → List Int → Int → Int → List (S93) → List Int → List Int → Int → Int → List (S93) → List Int → List Int → Int → Int → Option (Bool)
 | 0, _, _, _, _, _, _, _, _, _, _, _, _, _, _, _, _, _, _, _, _, _, _, _, _, _ => none
 | k + 1, x7, x10, x46, x259000, x259001, x259002, x259003, x259004, x260000, x260001, x287000, x287001, x287002, x287003, x287004, x299000, x299001, x299002, x299003, x299004, x314000, x314001, x314002, x314003, x314004 => if x46 = true then (some false) else (laws_FnExactLooked.j2 k x7 x10 x259000 x259001 x259002 x259003 x259004 x260000 x260001 x287000 x287001 x287002 x287003 x287004 x299000 x299001 x299002 x299003 x299004 x314000 x314001 x314002 x314003 x314004)
def laws_FnExactLooked.j2 : Nat → Int → Int → List (S98) → List Int → List Int → Int → Int → Int → Int → List (S93) → List Int → List Int → Int → Int → List (S93) → List Int → List Int → Int → Int → List (S93) → List Int → List Int → Int → Int → Option (Bool)
 | 0, _, _, _, _, _, _, _, _, _, _, _, _, _, _, _, _, _, _, _, _, _, _, _, _ => none
 | k + 1, x7, x10, x259000, x259001, x259002, x259003, x259004, x260000, x260001, x287000, x287001, x287002, x287003, x287004, x299000, x299001, x299002, x299003, x299004, x314000, x314001, x314002, x314003, x314004 => (laws_toMemory.f k x259000 x259001 x259002 x259003 x259004).bind fun bt315 => ((laws_eqMemory.f k x299000 x299001 x299002 x299003 x299004 bt315.1 bt315.2.1 bt315.2.2.1 bt315.2.2.2.1 bt315.2.2.2.2).bind fun t326 => (if t326 = true then (laws_FnExactLooked.j3 k x7 x10 x259000 x259001 x259002 x259003 x259004 x260000 x260001 x287000 x287001 x287002 x287003 x287004 x299000 x299001 x299002 x299003 x299004 x314000 x314001 x314002 x314003 x314004) else (some false)))
def laws_FnExactLooked.j3 : Nat → Int → Int → List (S98) → List Int → List Int → Int → Int → Int → Int → List (S93) → List Int → List Int → Int → Int → List (S93) → List Int → List Int → Int → Int → List (S93) → List Int → List Int → Int → Int → Option (Bool)
 | 0, _, _, _, _, _, _, _, _, _, _, _, _, _, _, _, _, _, _, _, _, _, _, _, _ => none
 | k + 1, x7, x10, x259000, x259001, x259002, x259003, x259004, x260000, x260001, x287000, x287001, x287002, x287003, x287004, x299000, x299001, x299002, x299003, x299004, x314000, x314001, x314002, x314003, x314004 => (laws_markMemory.f k x299000 x299001 x299002 x299003 x299004 1).bind fun bt327 => (if bt327.1 < 0 then (laws_FnExactLooked.j4 k x7 true x259000 x259001 x259002 x259003 x259004 x260000 x260001 x287000 x287001 x287002 x287003 x287004 x314000 x314001 x314002 x314003 x314004) else ((laws_eqMemory.f k x314000 x314001 x314002 x314003 x314004 x287000 x287001 x287002 x287003 x287004).bind fun t331 => (if t331 = true then (laws_FnExactLooked.j4 k x7 (x10 != x7) x259000 x259001 x259002 x259003 x259004 x260000 x260001 x287000 x287001 x287002 x287003 x287004 x314000 x314001 x314002 x314003 x314004) else (laws_FnExactLooked.j4 k x7 true x259000 x259001 x259002 x259003 x259004 x260000 x260001 x287000 x287001 x287002 x287003 x287004 x314000 x314001 x314002 x314003 x314004))))
def laws_FnExactLooked.j4 : Nat → Int → Bool → List (S98) → List Int → List Int → Int → Int → Int → Int → List (S93) → List Int → List Int → Int → Int → List (S93) → List Int → List Int → Int → Int → Option (Bool)
 | 0, _, _, _, _, _, _, _, _, _, _, _, _, _, _, _, _, _, _, _ => none
 | k + 1, x7, x67, x259000, x259001, x259002, x259003, x259004, x260000, x260001, x287000, x287001, x287002, x287003, x287004, x314000, x314001, x314002, x314003, x314004 => if x67 = true then (some false) else (laws_FnExactLooked.j5 k x7 x259000 x259001 x259002 x259003 x259004 x260000 x260001 x287000 x287001 x287002 x287003 x287004 x314000 x314001 x314002 x314003 x314004)
def laws_FnExactLooked.j5 : Nat → Int → List (S98) → List Int → List Int → Int → Int → Int → Int → List (S93) → List Int → List Int → Int → Int → List (S93) → List Int → List Int → Int → Int → Option (Bool)
 | 0, _, _, _, _, _, _, _, _, _, _, _, _, _, _, _, _, _, _ => none
 | k + 1, x7, x259000, x259001, x259002, x259003, x259004, x260000, x260001, x287000, x287001, x287002, x287003, x287004, x314000, x314001, x314002, x314003, x314004 => (laws_markMemory.f k x314000 x314001 x314002 x314003 x314004 1).bind fun bt332 => ((laws_heldMemory.f k bt332.2.1 bt332.2.2.1 bt332.2.2.2 x314003 x314004 1).bind fun t336 => (if t336 < 0 then (some false) else (laws_FnExactLooked.j6 k x7 bt332.1 t336 x259000 x259001 x259002 x259003 x259004 x260000 x260001 x287000 x287001 x287002 x287003 x287004 bt332.2.1 bt332.2.2.1 bt332.2.2.2 x314003 x314004)))
def laws_FnExactLooked.j6 : Nat → Int → Int → Int → List (S98) → List Int → List Int → Int → Int → Int → Int → List (S93) → List Int → List Int → Int → Int → List (S93) → List Int → List Int → Int → Int → Option (Bool)
 | 0, _, _, _, _, _, _, _, _, _, _, _, _, _, _, _, _, _, _, _, _ => none
 | k + 1, x7, x12, x13, x259000, x259001, x259002, x259003, x259004, x260000, x260001, x287000, x287001, x287002, x287003, x287004, x314000, x314001, x314002, x314003, x314004 => if x13 = x12 then (laws_FnExactLooked.j7 k x7 x12 x259000 x259001 x259002 x259003 x259004 x260000 x260001 x287000 x287001 x287002 x287003 x287004 x314000 x314001 x314002 x314003 x314004) else (some false)
def laws_FnExactLooked.j7 : Nat → Int → Int → List (S98) → List Int → List Int → Int → Int → Int → Int → List (S93) → List Int → List Int → Int → Int → List (S93) → List Int → List Int → Int → Int → Option (Bool)
 | 0, _, _, _, _, _, _, _, _, _, _, _, _, _, _, _, _, _, _, _ => none
 | k + 1, x7, x12, x259000, x259001, x259002, x259003, x259004, x260000, x260001, x287000, x287001, x287002, x287003, x287004, x314000, x314001, x314002, x314003, x314004 => (laws_toMemory.f k x259000 x259001 x259002 x259003 x259004).bind fun bt337 => ((laws_toValue.f x260000 x260001).bind fun bt348 => ((impl_Looked.f bt337.1 bt337.2.1 bt337.2.2.1 bt337.2.2.2.1 bt337.2.2.2.2 bt348.1 bt348.2).bind fun bt350 => ((laws_eqMemory.f k bt350.1 bt350.2.1 bt350.2.2.1 bt350.2.2.2.1 bt350.2.2.2.2.1 x287000 x287001 x287002 x287003 x287004).bind fun t363 => (if t363 = true then (laws_FnExactLooked.j8 k x12 (bt350.2.2.2.2.2 != x7) x314000 x314001 x314002 x314003 x314004) else (laws_FnExactLooked.j8 k x12 true x314000 x314001 x314002 x314003 x314004)))))
def laws_FnExactLooked.j8 : Nat → Int → Bool → List (S93) → List Int → List Int → Int → Int → Option (Bool)
 | 0, _, _, _, _, _, _, _ => none
 | k + 1, x12, x95, x314000, x314001, x314002, x314003, x314004 => if x95 = true then (some false) else (laws_FnExactLooked.j9 k x12 x314000 x314001 x314002 x314003 x314004)
def laws_FnExactLooked.j9 : Nat → Int → List (S93) → List Int → List Int → Int → Int → Option (Bool)
 | 0, _, _, _, _, _, _ => none
 | k + 1, x12, x314000, x314001, x314002, x314003, x314004 => (laws_heldMemory.f k x314000 x314001 x314002 x314003 x314004 1).bind fun t364 => (if t364 < 0 then (some false) else (if t364 = x12 then (some true) else (some false)))
end
def laws_FnExactLooked.f (k : Nat) (l0_0 : List (S98)) (l0_1 : List Int) (l0_2 : List Int) (a0_3 : Int) (a0_4 : Int) (a1_0 : Int) (a1_1 : Int) : Option (Bool) := (laws_szMemory.f l0_0 l0_1 l0_2 a0_3 a0_4 1048576).bind fun t260 => (if t260 < 0 then (some true) else (laws_FnExactLooked.j0 k l0_0 l0_1 l0_2 a0_3 a0_4 a1_0 a1_1))
theorem laws_FnExactLooked.mono_l : ∀ k, (∀ y0 y1 y2 y3 y4 y5 y6, LeO (laws_FnExactLooked.j0 k y0 y1 y2 y3 y4 y5 y6) (laws_FnExactLooked.j0 (k + 1) y0 y1 y2 y3 y4 y5 y6)) ∧ (∀ y0 y1 y2 y3 y4 y5 y6 y7 y8 y9 y10 y11 y12 y13 y14 y15 y16 y17 y18 y19 y20 y21 y22 y23 y24, LeO (laws_FnExactLooked.j1 k y0 y1 y2 y3 y4 y5 y6 y7 y8 y9 y10 y11 y12 y13 y14 y15 y16 y17 y18 y19 y20 y21 y22 y23 y24) (laws_FnExactLooked.j1 (k + 1) y0 y1 y2 y3 y4 y5 y6 y7 y8 y9 y10 y11 y12 y13 y14 y15 y16 y17 y18 y19 y20 y21 y22 y23 y24)) ∧ (∀ y0 y1 y2 y3 y4 y5 y6 y7 y8 y9 y10 y11 y12 y13 y14 y15 y16 y17 y18 y19 y20 y21 y22 y23, LeO (laws_FnExactLooked.j2 k y0 y1 y2 y3 y4 y5 y6 y7 y8 y9 y10 y11 y12 y13 y14 y15 y16 y17 y18 y19 y20 y21 y22 y23) (laws_FnExactLooked.j2 (k + 1) y0 y1 y2 y3 y4 y5 y6 y7 y8 y9 y10 y11 y12 y13 y14 y15 y16 y17 y18 y19 y20 y21 y22 y23)) ∧ (∀ y0 y1 y2 y3 y4 y5 y6 y7 y8 y9 y10 y11 y12 y13 y14 y15 y16 y17 y18 y19 y20 y21 y22 y23, LeO (laws_FnExactLooked.j3 k y0 y1 y2 y3 y4 y5 y6 y7 y8 y9 y10 y11 y12 y13 y14 y15 y16 y17 y18 y19 y20 y21 y22 y23) (laws_FnExactLooked.j3 (k + 1) y0 y1 y2 y3 y4 y5 y6 y7 y8 y9 y10 y11 y12 y13 y14 y15 y16 y17 y18 y19 y20 y21 y22 y23)) ∧ (∀ y0 y1 y2 y3 y4 y5 y6 y7 y8 y9 y10 y11 y12 y13 y14 y15 y16 y17 y18, LeO (laws_FnExactLooked.j4 k y0 y1 y2 y3 y4 y5 y6 y7 y8 y9 y10 y11 y12 y13 y14 y15 y16 y17 y18) (laws_FnExactLooked.j4 (k + 1) y0 y1 y2 y3 y4 y5 y6 y7 y8 y9 y10 y11 y12 y13 y14 y15 y16 y17 y18)) ∧ (∀ y0 y1 y2 y3 y4 y5 y6 y7 y8 y9 y10 y11 y12 y13 y14 y15 y16 y17, LeO (laws_FnExactLooked.j5 k y0 y1 y2 y3 y4 y5 y6 y7 y8 y9 y10 y11 y12 y13 y14 y15 y16 y17) (laws_FnExactLooked.j5 (k + 1) y0 y1 y2 y3 y4 y5 y6 y7 y8 y9 y10 y11 y12 y13 y14 y15 y16 y17)) ∧ (∀ y0 y1 y2 y3 y4 y5 y6 y7 y8 y9 y10 y11 y12 y13 y14 y15 y16 y17 y18 y19, LeO (laws_FnExactLooked.j6 k y0 y1 y2 y3 y4 y5 y6 y7 y8 y9 y10 y11 y12 y13 y14 y15 y16 y17 y18 y19) (laws_FnExactLooked.j6 (k + 1) y0 y1 y2 y3 y4 y5 y6 y7 y8 y9 y10 y11 y12 y13 y14 y15 y16 y17 y18 y19)) ∧ (∀ y0 y1 y2 y3 y4 y5 y6 y7 y8 y9 y10 y11 y12 y13 y14 y15 y16 y17 y18, LeO (laws_FnExactLooked.j7 k y0 y1 y2 y3 y4 y5 y6 y7 y8 y9 y10 y11 y12 y13 y14 y15 y16 y17 y18) (laws_FnExactLooked.j7 (k + 1) y0 y1 y2 y3 y4 y5 y6 y7 y8 y9 y10 y11 y12 y13 y14 y15 y16 y17 y18)) ∧ (∀ y0 y1 y2 y3 y4 y5 y6, LeO (laws_FnExactLooked.j8 k y0 y1 y2 y3 y4 y5 y6) (laws_FnExactLooked.j8 (k + 1) y0 y1 y2 y3 y4 y5 y6)) ∧ (∀ y0 y1 y2 y3 y4 y5, LeO (laws_FnExactLooked.j9 k y0 y1 y2 y3 y4 y5) (laws_FnExactLooked.j9 (k + 1) y0 y1 y2 y3 y4 y5))
 | 0 => ⟨fun _ _ _ _ _ _ _ r h => by simp [laws_FnExactLooked.j0] at h, fun _ _ _ _ _ _ _ _ _ _ _ _ _ _ _ _ _ _ _ _ _ _ _ _ _ r h => by simp [laws_FnExactLooked.j1] at h, fun _ _ _ _ _ _ _ _ _ _ _ _ _ _ _ _ _ _ _ _ _ _ _ _ r h => by simp [laws_FnExactLooked.j2] at h, fun _ _ _ _ _ _ _ _ _ _ _ _ _ _ _ _ _ _ _ _ _ _ _ _ r h => by simp [laws_FnExactLooked.j3] at h, fun _ _ _ _ _ _ _ _ _ _ _ _ _ _ _ _ _ _ _ r h => by simp [laws_FnExactLooked.j4] at h, fun _ _ _ _ _ _ _ _ _ _ _ _ _ _ _ _ _ _ r h => by simp [laws_FnExactLooked.j5] at h, fun _ _ _ _ _ _ _ _ _ _ _ _ _ _ _ _ _ _ _ _ r h => by simp [laws_FnExactLooked.j6] at h, fun _ _ _ _ _ _ _ _ _ _ _ _ _ _ _ _ _ _ _ r h => by simp [laws_FnExactLooked.j7] at h, fun _ _ _ _ _ _ _ r h => by simp [laws_FnExactLooked.j8] at h, fun _ _ _ _ _ _ r h => by simp [laws_FnExactLooked.j9] at h⟩
 | k + 1 => by
  obtain ⟨ih0, ih1, ih2, ih3, ih4, ih5, ih6, ih7, ih8, ih9⟩ := laws_FnExactLooked.mono_l k
  refine ⟨?_, ?_, ?_, ?_, ?_, ?_, ?_, ?_, ?_, ?_⟩
  ·
   intro y0 y1 y2 y3 y4 y5 y6
   unfold laws_FnExactLooked.j0
   with_reducible repeat' first | exact ih0 _ _ _ _ _ _ _ | exact ih1 _ _ _ _ _ _ _ _ _ _ _ _ _ _ _ _ _ _ _ _ _ _ _ _ _ | exact ih2 _ _ _ _ _ _ _ _ _ _ _ _ _ _ _ _ _ _ _ _ _ _ _ _ | exact ih3 _ _ _ _ _ _ _ _ _ _ _ _ _ _ _ _ _ _ _ _ _ _ _ _ | exact ih4 _ _ _ _ _ _ _ _ _ _ _ _ _ _ _ _ _ _ _ | exact ih5 _ _ _ _ _ _ _ _ _ _ _ _ _ _ _ _ _ _ | exact ih6 _ _ _ _ _ _ _ _ _ _ _ _ _ _ _ _ _ _ _ _ | exact ih7 _ _ _ _ _ _ _ _ _ _ _ _ _ _ _ _ _ _ _ | exact ih8 _ _ _ _ _ _ _ | exact ih9 _ _ _ _ _ _ | exact laws_eqMemory.mono _ _ _ _ _ _ _ _ _ _ _ | exact laws_heldMemory.mono _ _ _ _ _ _ _ | exact laws_markMemory.mono _ _ _ _ _ _ _ | exact laws_toMemory.mono _ _ _ _ _ _ | exact LeO.refl _ | exact LeO.none _ | refine LeO.ite ?_ ?_ | refine LeO.bind ?_ (fun _ => ?_)
  ·
   intro y0 y1 y2 y3 y4 y5 y6 y7 y8 y9 y10 y11 y12 y13 y14 y15 y16 y17 y18 y19 y20 y21 y22 y23 y24
   unfold laws_FnExactLooked.j1
   with_reducible repeat' first | exact ih0 _ _ _ _ _ _ _ | exact ih1 _ _ _ _ _ _ _ _ _ _ _ _ _ _ _ _ _ _ _ _ _ _ _ _ _ | exact ih2 _ _ _ _ _ _ _ _ _ _ _ _ _ _ _ _ _ _ _ _ _ _ _ _ | exact ih3 _ _ _ _ _ _ _ _ _ _ _ _ _ _ _ _ _ _ _ _ _ _ _ _ | exact ih4 _ _ _ _ _ _ _ _ _ _ _ _ _ _ _ _ _ _ _ | exact ih5 _ _ _ _ _ _ _ _ _ _ _ _ _ _ _ _ _ _ | exact ih6 _ _ _ _ _ _ _ _ _ _ _ _ _ _ _ _ _ _ _ _ | exact ih7 _ _ _ _ _ _ _ _ _ _ _ _ _ _ _ _ _ _ _ | exact ih8 _ _ _ _ _ _ _ | exact ih9 _ _ _ _ _ _ | exact laws_eqMemory.mono _ _ _ _ _ _ _ _ _ _ _ | exact laws_heldMemory.mono _ _ _ _ _ _ _ | exact laws_markMemory.mono _ _ _ _ _ _ _ | exact laws_toMemory.mono _ _ _ _ _ _ | exact LeO.refl _ | exact LeO.none _ | refine LeO.ite ?_ ?_ | refine LeO.bind ?_ (fun _ => ?_)
  ·
   intro y0 y1 y2 y3 y4 y5 y6 y7 y8 y9 y10 y11 y12 y13 y14 y15 y16 y17 y18 y19 y20 y21 y22 y23
   unfold laws_FnExactLooked.j2
   with_reducible repeat' first | exact ih0 _ _ _ _ _ _ _ | exact ih1 _ _ _ _ _ _ _ _ _ _ _ _ _ _ _ _ _ _ _ _ _ _ _ _ _ | exact ih2 _ _ _ _ _ _ _ _ _ _ _ _ _ _ _ _ _ _ _ _ _ _ _ _ | exact ih3 _ _ _ _ _ _ _ _ _ _ _ _ _ _ _ _ _ _ _ _ _ _ _ _ | exact ih4 _ _ _ _ _ _ _ _ _ _ _ _ _ _ _ _ _ _ _ | exact ih5 _ _ _ _ _ _ _ _ _ _ _ _ _ _ _ _ _ _ | exact ih6 _ _ _ _ _ _ _ _ _ _ _ _ _ _ _ _ _ _ _ _ | exact ih7 _ _ _ _ _ _ _ _ _ _ _ _ _ _ _ _ _ _ _ | exact ih8 _ _ _ _ _ _ _ | exact ih9 _ _ _ _ _ _ | exact laws_eqMemory.mono _ _ _ _ _ _ _ _ _ _ _ | exact laws_heldMemory.mono _ _ _ _ _ _ _ | exact laws_markMemory.mono _ _ _ _ _ _ _ | exact laws_toMemory.mono _ _ _ _ _ _ | exact LeO.refl _ | exact LeO.none _ | refine LeO.ite ?_ ?_ | refine LeO.bind ?_ (fun _ => ?_)
  ·
   intro y0 y1 y2 y3 y4 y5 y6 y7 y8 y9 y10 y11 y12 y13 y14 y15 y16 y17 y18 y19 y20 y21 y22 y23
   unfold laws_FnExactLooked.j3
   with_reducible repeat' first | exact ih0 _ _ _ _ _ _ _ | exact ih1 _ _ _ _ _ _ _ _ _ _ _ _ _ _ _ _ _ _ _ _ _ _ _ _ _ | exact ih2 _ _ _ _ _ _ _ _ _ _ _ _ _ _ _ _ _ _ _ _ _ _ _ _ | exact ih3 _ _ _ _ _ _ _ _ _ _ _ _ _ _ _ _ _ _ _ _ _ _ _ _ | exact ih4 _ _ _ _ _ _ _ _ _ _ _ _ _ _ _ _ _ _ _ | exact ih5 _ _ _ _ _ _ _ _ _ _ _ _ _ _ _ _ _ _ | exact ih6 _ _ _ _ _ _ _ _ _ _ _ _ _ _ _ _ _ _ _ _ | exact ih7 _ _ _ _ _ _ _ _ _ _ _ _ _ _ _ _ _ _ _ | exact ih8 _ _ _ _ _ _ _ | exact ih9 _ _ _ _ _ _ | exact laws_eqMemory.mono _ _ _ _ _ _ _ _ _ _ _ | exact laws_heldMemory.mono _ _ _ _ _ _ _ | exact laws_markMemory.mono _ _ _ _ _ _ _ | exact laws_toMemory.mono _ _ _ _ _ _ | exact LeO.refl _ | exact LeO.none _ | refine LeO.ite ?_ ?_ | refine LeO.bind ?_ (fun _ => ?_)
  ·
   intro y0 y1 y2 y3 y4 y5 y6 y7 y8 y9 y10 y11 y12 y13 y14 y15 y16 y17 y18
   unfold laws_FnExactLooked.j4
   with_reducible repeat' first | exact ih0 _ _ _ _ _ _ _ | exact ih1 _ _ _ _ _ _ _ _ _ _ _ _ _ _ _ _ _ _ _ _ _ _ _ _ _ | exact ih2 _ _ _ _ _ _ _ _ _ _ _ _ _ _ _ _ _ _ _ _ _ _ _ _ | exact ih3 _ _ _ _ _ _ _ _ _ _ _ _ _ _ _ _ _ _ _ _ _ _ _ _ | exact ih4 _ _ _ _ _ _ _ _ _ _ _ _ _ _ _ _ _ _ _ | exact ih5 _ _ _ _ _ _ _ _ _ _ _ _ _ _ _ _ _ _ | exact ih6 _ _ _ _ _ _ _ _ _ _ _ _ _ _ _ _ _ _ _ _ | exact ih7 _ _ _ _ _ _ _ _ _ _ _ _ _ _ _ _ _ _ _ | exact ih8 _ _ _ _ _ _ _ | exact ih9 _ _ _ _ _ _ | exact laws_eqMemory.mono _ _ _ _ _ _ _ _ _ _ _ | exact laws_heldMemory.mono _ _ _ _ _ _ _ | exact laws_markMemory.mono _ _ _ _ _ _ _ | exact laws_toMemory.mono _ _ _ _ _ _ | exact LeO.refl _ | exact LeO.none _ | refine LeO.ite ?_ ?_ | refine LeO.bind ?_ (fun _ => ?_)
  ·
   intro y0 y1 y2 y3 y4 y5 y6 y7 y8 y9 y10 y11 y12 y13 y14 y15 y16 y17
   unfold laws_FnExactLooked.j5
   with_reducible repeat' first | exact ih0 _ _ _ _ _ _ _ | exact ih1 _ _ _ _ _ _ _ _ _ _ _ _ _ _ _ _ _ _ _ _ _ _ _ _ _ | exact ih2 _ _ _ _ _ _ _ _ _ _ _ _ _ _ _ _ _ _ _ _ _ _ _ _ | exact ih3 _ _ _ _ _ _ _ _ _ _ _ _ _ _ _ _ _ _ _ _ _ _ _ _ | exact ih4 _ _ _ _ _ _ _ _ _ _ _ _ _ _ _ _ _ _ _ | exact ih5 _ _ _ _ _ _ _ _ _ _ _ _ _ _ _ _ _ _ | exact ih6 _ _ _ _ _ _ _ _ _ _ _ _ _ _ _ _ _ _ _ _ | exact ih7 _ _ _ _ _ _ _ _ _ _ _ _ _ _ _ _ _ _ _ | exact ih8 _ _ _ _ _ _ _ | exact ih9 _ _ _ _ _ _ | exact laws_eqMemory.mono _ _ _ _ _ _ _ _ _ _ _ | exact laws_heldMemory.mono _ _ _ _ _ _ _ | exact laws_markMemory.mono _ _ _ _ _ _ _ | exact laws_toMemory.mono _ _ _ _ _ _ | exact LeO.refl _ | exact LeO.none _ | refine LeO.ite ?_ ?_ | refine LeO.bind ?_ (fun _ => ?_)
  ·
   intro y0 y1 y2 y3 y4 y5 y6 y7 y8 y9 y10 y11 y12 y13 y14 y15 y16 y17 y18 y19
   unfold laws_FnExactLooked.j6
   with_reducible repeat' first | exact ih0 _ _ _ _ _ _ _ | exact ih1 _ _ _ _ _ _ _ _ _ _ _ _ _ _ _ _ _ _ _ _ _ _ _ _ _ | exact ih2 _ _ _ _ _ _ _ _ _ _ _ _ _ _ _ _ _ _ _ _ _ _ _ _ | exact ih3 _ _ _ _ _ _ _ _ _ _ _ _ _ _ _ _ _ _ _ _ _ _ _ _ | exact ih4 _ _ _ _ _ _ _ _ _ _ _ _ _ _ _ _ _ _ _ | exact ih5 _ _ _ _ _ _ _ _ _ _ _ _ _ _ _ _ _ _ | exact ih6 _ _ _ _ _ _ _ _ _ _ _ _ _ _ _ _ _ _ _ _ | exact ih7 _ _ _ _ _ _ _ _ _ _ _ _ _ _ _ _ _ _ _ | exact ih8 _ _ _ _ _ _ _ | exact ih9 _ _ _ _ _ _ | exact laws_eqMemory.mono _ _ _ _ _ _ _ _ _ _ _ | exact laws_heldMemory.mono _ _ _ _ _ _ _ | exact laws_markMemory.mono _ _ _ _ _ _ _ | exact laws_toMemory.mono _ _ _ _ _ _ | exact LeO.refl _ | exact LeO.none _ | refine LeO.ite ?_ ?_ | refine LeO.bind ?_ (fun _ => ?_)
  ·
   intro y0 y1 y2 y3 y4 y5 y6 y7 y8 y9 y10 y11 y12 y13 y14 y15 y16 y17 y18
   unfold laws_FnExactLooked.j7
   with_reducible repeat' first | exact ih0 _ _ _ _ _ _ _ | exact ih1 _ _ _ _ _ _ _ _ _ _ _ _ _ _ _ _ _ _ _ _ _ _ _ _ _ | exact ih2 _ _ _ _ _ _ _ _ _ _ _ _ _ _ _ _ _ _ _ _ _ _ _ _ | exact ih3 _ _ _ _ _ _ _ _ _ _ _ _ _ _ _ _ _ _ _ _ _ _ _ _ | exact ih4 _ _ _ _ _ _ _ _ _ _ _ _ _ _ _ _ _ _ _ | exact ih5 _ _ _ _ _ _ _ _ _ _ _ _ _ _ _ _ _ _ | exact ih6 _ _ _ _ _ _ _ _ _ _ _ _ _ _ _ _ _ _ _ _ | exact ih7 _ _ _ _ _ _ _ _ _ _ _ _ _ _ _ _ _ _ _ | exact ih8 _ _ _ _ _ _ _ | exact ih9 _ _ _ _ _ _ | exact laws_eqMemory.mono _ _ _ _ _ _ _ _ _ _ _ | exact laws_heldMemory.mono _ _ _ _ _ _ _ | exact laws_markMemory.mono _ _ _ _ _ _ _ | exact laws_toMemory.mono _ _ _ _ _ _ | exact LeO.refl _ | exact LeO.none _ | refine LeO.ite ?_ ?_ | refine LeO.bind ?_ (fun _ => ?_)
  ·
   intro y0 y1 y2 y3 y4 y5 y6
   unfold laws_FnExactLooked.j8
   with_reducible repeat' first | exact ih0 _ _ _ _ _ _ _ | exact ih1 _ _ _ _ _ _ _ _ _ _ _ _ _ _ _ _ _ _ _ _ _ _ _ _ _ | exact ih2 _ _ _ _ _ _ _ _ _ _ _ _ _ _ _ _ _ _ _ _ _ _ _ _ | exact ih3 _ _ _ _ _ _ _ _ _ _ _ _ _ _ _ _ _ _ _ _ _ _ _ _ | exact ih4 _ _ _ _ _ _ _ _ _ _ _ _ _ _ _ _ _ _ _ | exact ih5 _ _ _ _ _ _ _ _ _ _ _ _ _ _ _ _ _ _ | exact ih6 _ _ _ _ _ _ _ _ _ _ _ _ _ _ _ _ _ _ _ _ | exact ih7 _ _ _ _ _ _ _ _ _ _ _ _ _ _ _ _ _ _ _ | exact ih8 _ _ _ _ _ _ _ | exact ih9 _ _ _ _ _ _ | exact laws_eqMemory.mono _ _ _ _ _ _ _ _ _ _ _ | exact laws_heldMemory.mono _ _ _ _ _ _ _ | exact laws_markMemory.mono _ _ _ _ _ _ _ | exact laws_toMemory.mono _ _ _ _ _ _ | exact LeO.refl _ | exact LeO.none _ | refine LeO.ite ?_ ?_ | refine LeO.bind ?_ (fun _ => ?_)
  ·
   intro y0 y1 y2 y3 y4 y5
   unfold laws_FnExactLooked.j9
   with_reducible repeat' first | exact ih0 _ _ _ _ _ _ _ | exact ih1 _ _ _ _ _ _ _ _ _ _ _ _ _ _ _ _ _ _ _ _ _ _ _ _ _ | exact ih2 _ _ _ _ _ _ _ _ _ _ _ _ _ _ _ _ _ _ _ _ _ _ _ _ | exact ih3 _ _ _ _ _ _ _ _ _ _ _ _ _ _ _ _ _ _ _ _ _ _ _ _ | exact ih4 _ _ _ _ _ _ _ _ _ _ _ _ _ _ _ _ _ _ _ | exact ih5 _ _ _ _ _ _ _ _ _ _ _ _ _ _ _ _ _ _ | exact ih6 _ _ _ _ _ _ _ _ _ _ _ _ _ _ _ _ _ _ _ _ | exact ih7 _ _ _ _ _ _ _ _ _ _ _ _ _ _ _ _ _ _ _ | exact ih8 _ _ _ _ _ _ _ | exact ih9 _ _ _ _ _ _ | exact laws_eqMemory.mono _ _ _ _ _ _ _ _ _ _ _ | exact laws_heldMemory.mono _ _ _ _ _ _ _ | exact laws_markMemory.mono _ _ _ _ _ _ _ | exact laws_toMemory.mono _ _ _ _ _ _ | exact LeO.refl _ | exact LeO.none _ | refine LeO.ite ?_ ?_ | refine LeO.bind ?_ (fun _ => ?_)
theorem laws_FnExactLooked.mono : ∀ a0 a1 a2 a3 a4 a5 a6 k, LeO (laws_FnExactLooked.f k a0 a1 a2 a3 a4 a5 a6) (laws_FnExactLooked.f (k + 1) a0 a1 a2 a3 a4 a5 a6) := by
 intro a0 a1 a2 a3 a4 a5 a6 k
 obtain ⟨ih0, ih1, ih2, ih3, ih4, ih5, ih6, ih7, ih8, ih9⟩ := laws_FnExactLooked.mono_l k
 unfold laws_FnExactLooked.f
 with_reducible repeat' first | exact ih0 _ _ _ _ _ _ _ | exact ih1 _ _ _ _ _ _ _ _ _ _ _ _ _ _ _ _ _ _ _ _ _ _ _ _ _ | exact ih2 _ _ _ _ _ _ _ _ _ _ _ _ _ _ _ _ _ _ _ _ _ _ _ _ | exact ih3 _ _ _ _ _ _ _ _ _ _ _ _ _ _ _ _ _ _ _ _ _ _ _ _ | exact ih4 _ _ _ _ _ _ _ _ _ _ _ _ _ _ _ _ _ _ _ | exact ih5 _ _ _ _ _ _ _ _ _ _ _ _ _ _ _ _ _ _ | exact ih6 _ _ _ _ _ _ _ _ _ _ _ _ _ _ _ _ _ _ _ _ | exact ih7 _ _ _ _ _ _ _ _ _ _ _ _ _ _ _ _ _ _ _ | exact ih8 _ _ _ _ _ _ _ | exact ih9 _ _ _ _ _ _ | exact laws_eqMemory.mono _ _ _ _ _ _ _ _ _ _ _ | exact laws_heldMemory.mono _ _ _ _ _ _ _ | exact laws_markMemory.mono _ _ _ _ _ _ _ | exact laws_toMemory.mono _ _ _ _ _ _ | exact LeO.refl _ | exact LeO.none _ | refine LeO.ite ?_ ?_ | refine LeO.bind ?_ (fun _ => ?_)

end Go.Proofs.Ytnlhjblfemgggaa.PFnExactLooked
