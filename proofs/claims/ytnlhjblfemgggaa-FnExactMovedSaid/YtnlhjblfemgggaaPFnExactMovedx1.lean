/- Written by a program of this session (a turned copy of the kit's print): a contract for each Go function. No condition beside those in each statement. -/
import Derived.Test.YtnlhjblfemgggaaPFnExactMovedx0
namespace Go.Proofs.Ytnlhjblfemgggaa.PFnExactMoved
open Go.RowKit Go.Proofs.YtnlhjblfemgggaaW.PrintWords Go.Proofs.YtnlhjblfemgggaaW.PrintLast Go.Proofs.YtnlhjblfemgggaaW.PrintMore
attribute [local go_sem] max2_int min2_int max_two min_two max_three min_three max_four min_four   -- for this text's walks alone
set_option linter.unusedVariables false
set_option linter.unusedSimpArgs false

/-! ### impl_copyInts: function 68 -/
def impl_copyInts.f (l0 : List Int) : Option (List Int) := if ([] : List Int).length + l0.length < 17592186044416 then (some (([] : List Int) ++ l0)) else (none)
set_option maxHeartbeats 8000000 in
set_option maxRecDepth 100000 in
theorem impl_copyInts.calls (A0 : Option Addr) (c0 : Nat) (l0 : List Int) (r : List Int) (w : World) (hr0 : Kd.C (Kd.int .i64) w A0 l0.length l0) (hc0 : l0.length ≤ c0) (h : impl_copyInts.f l0 = some r) :
  Calls Try.prog 68 #[.slice A0 l0.length c0] w fun e w' => ∃ v0_ : Value, e = .returned (v0_) ∧ Kd.R (Kd.int .i64) 3 w' w.heap.size (fun _ => True) v0_ r ∧ Below w.heap.size w w' := by
 have HR0 := As.mk hr0; have HC0 := As.mk hc0; clear hr0 hc0; have HB := As.mk (Below.refl w.heap.size w); have H : (if ([] : List Int).length + l0.length < 17592186044416 then (some (([] : List Int) ++ l0)) else (none)) = some r := h; clear h
 by_cases c2 : ([] : List Int).length + l0.length < 17592186044416
 rotate_left; · rw [if_neg c2] at H; exact absurd H (by simp)

 rw [if_pos c2] at H; have LMc2 := As.mk c2; clear c2
 obtain ⟨y101, hy101⟩ : ∃ y_ : List Int, y_ = (([] : List Int) ++ l0) := ⟨_, rfl⟩
 replace H : (some y101) = some r := by first | (rw [hy101]; with_reducible exact H) | (have H2_ := (Option.bind_some _ _).symm.trans H; rw [hy101]; with_reducible exact H2_) | (have H2_ := (Option.bind_some _ _).symm.trans H; with_reducible exact H2_) | with_reducible exact H | (rw [hy101]; exact H) | exact H
 have Ny101 := As.mk hy101; clear hy101; obtain rfl := sj H; go_enter Try.func68, Try.ntmps68
 go_wp2_with (first | ((with_reducible refine gate_builtin (b := .append) (xs := #[(.const (.slice none 0 0)), .tmp 3]) rfl ?_); at_builtin; refine Kd.R_append_rows (Kd.int .i64) (w0 := w) w.heap.size rfl (.const (.slice none 0 0)) (.tmp 3) 25 3 (.int .i64 0) 8 rfl Try.underlying25 info3 rfl (by decide) (by omega) (.slice none 0 0) ([] : List Int) l0 _ _ _ (fun _ => True) (fun _ => False) rfl rfl ?aO ?aR (fun _ _ h => h) (fun _ h => h.elim) ?aF ?aB ?aS ?aL ?_; (case aR => repeat (first | exact HR0.out | (with_reducible refine Kd.C_alloc ?_ _) | (with_reducible refine Kd.C_drewN ?_ _) | (with_reducible refine Kd.C_drew ?_))); (case aB => exact (be w)); (case aF => exact (fun _ _ => trivial)); (case aO => exact ((Kd.R_nil _ _ _ _ (fun _ => True)))); (case aS => exact (below_size (be w))); (case aL => have := LMc2.out; omega); intro v102 w3 ho hb hg hat; rw [← Ny101.out] at ho; replace HB := As.mk (hb); have HO103 := As.mk (ho); clear ho hb hg hat))
 go_ret
 exact ⟨_, ez, by (with_reducible repeat (first | apply Kd.R_alloc | apply Kd.R_drewN | apply Kd.R_drew)); exact HO103.out, be w⟩
/-! ### impl_copyMemory: function 42 -/
def impl_copyMemory.f (l0_0 : List (S93)) (l0_1 : List Int) (l0_2 : List Int) (a0_3 : Int) (a0_4 : Int) : Option ((List (S93)) × List Int × List Int × Int × Int) := if ([] : List (S93)).length + l0_0.length < 8796093022208 then ((impl_copyInts.f l0_1).bind fun t109 => ((impl_copyInts.f l0_2).bind fun t112 => (some ((([] : List (S93)) ++ l0_0), t109, t112, a0_3, a0_4)))) else (none)
def impl_copyMemory.T2 : Bool × List (List Nat × List Nat) := (true, [([], []), ([0], [0]), ([1], [1]), ([], []), ([3], [3]), ([4, 2], [4]), ([0, 1, 2, 3, 4], []), ([6, 2, 5, 0, 1, 2, 3, 4], [2, 6]), ([0, 1, 2, 3, 4, 5, 6, 7], []), ([8, 5, 7, 0, 1, 2, 3, 4, 5, 6, 7], [5, 8])])
def impl_copyMemory.B2 : List Nat := [0, 1, 3, 0, 8, 31, 31, 127, 255, 511]
theorem impl_copyMemory.tab2 : rtab .any (opsOf Try.f42 2) = impl_copyMemory.T2 := by kernel_rfl
theorem impl_copyMemory.bits2 : waitsOk impl_copyMemory.T2.2 impl_copyMemory.B2 = true := by kernel_rfl
set_option maxHeartbeats 8000000 in
set_option maxRecDepth 100000 in
theorem impl_copyMemory.calls (A0_0 : Option Addr) (c0_0 : Nat) (l0_0 : List (S93)) (A0_1 : Option Addr) (c0_1 : Nat) (l0_1 : List Int) (A0_2 : Option Addr) (c0_2 : Nat) (l0_2 : List Int) (a0_3 : Int) (a0_4 : Int) (r1 : List (S93)) (r2 : List Int) (r3 : List Int) (r4 : Int) (r5 : Int) (w : World) (hr0_0 : Kd.C k93 w A0_0 l0_0.length l0_0) (hc0_0 : l0_0.length ≤ c0_0) (hr0_1 : Kd.C (Kd.int .i64) w A0_1 l0_1.length l0_1) (hc0_1 : l0_1.length ≤ c0_1) (hr0_2 : Kd.C (Kd.int .i64) w A0_2 l0_2.length l0_2) (hc0_2 : l0_2.length ≤ c0_2) (h : impl_copyMemory.f l0_0 l0_1 l0_2 a0_3 a0_4 = some (r1, r2, r3, r4, r5)) :
  Calls Try.prog 42 #[.agg #[.slice A0_0 l0_0.length c0_0, .slice A0_1 l0_1.length c0_1, .slice A0_2 l0_2.length c0_2, .int .i64 a0_3, .int .i64 a0_4]] w fun e w' => ∃ v0_ v1_ v2_ : Value, e = .returned (.agg #[v0_, v1_, v2_, .int .i64 r4, .int .i64 r5]) ∧ Kd.R k93 93 w' w.heap.size (fun _ => True) v0_ r1 ∧ Kd.R (Kd.int .i64) 3 w' w.heap.size (n1_k v2_) v1_ r2 ∧ Kd.R (Kd.int .i64) 3 w' w.heap.size (n1_k v1_) v2_ r3 ∧ Below w.heap.size w w' := by
 have hu34 := Try.underlying34; have HR0_0 := As.mk hr0_0; have HC0_0 := As.mk hc0_0; clear hr0_0 hc0_0; have HR0_1 := As.mk hr0_1; have HC0_1 := As.mk hc0_1; clear hr0_1 hc0_1; have HR0_2 := As.mk hr0_2; have HC0_2 := As.mk hc0_2; clear hr0_2 hc0_2; have HB := As.mk (Below.refl w.heap.size w); have H : (if ([] : List (S93)).length + l0_0.length < 8796093022208 then ((impl_copyInts.f l0_1).bind fun t109 => ((impl_copyInts.f l0_2).bind fun t112 => (some ((([] : List (S93)) ++ l0_0), t109, t112, a0_3, a0_4)))) else (none)) = some (r1, r2, r3, r4, r5) := h; clear h
 by_cases c2 : ([] : List (S93)).length + l0_0.length < 8796093022208
 rotate_left; · rw [if_neg c2] at H; exact absurd H (by simp)

 rw [if_pos c2] at H; have LMc2 := As.mk c2; clear c2
 obtain ⟨y106, hy106⟩ : ∃ y_ : List (S93), y_ = (([] : List (S93)) ++ l0_0) := ⟨_, rfl⟩
 replace H : ((impl_copyInts.f l0_1).bind fun t109 => ((impl_copyInts.f l0_2).bind fun t112 => (some (y106, t109, t112, a0_3, a0_4)))) = some (r1, r2, r3, r4, r5) := by first | (rw [hy106]; with_reducible exact H) | (have H2_ := (Option.bind_some _ _).symm.trans H; rw [hy106]; with_reducible exact H2_) | (have H2_ := (Option.bind_some _ _).symm.trans H; with_reducible exact H2_) | with_reducible exact H | (rw [hy106]; exact H) | exact H
 have Ny106 := As.mk hy106; clear hy106; replace H := bo H; obtain ⟨t109, A3, H⟩ := H; replace H := bo H; obtain ⟨t112, A4, H⟩ := H
 simp only [Option.some.injEq, Prod.mk.injEq] at H
 obtain ⟨rfl, rfl, rfl, rfl, rfl⟩ := H; go_enter Try.func42, Try.ntmps42
 try go_wp2_with (first | ((with_reducible refine gate_dst (N := 1) rfl ?_); refine bxe 1 #[.slice A0_0 l0_0.length c0_0, .slice A0_1 l0_1.length c0_1, .slice A0_2 l0_2.length c0_2, .int .i64 a0_3, .int .i64 a0_4] 34 ?_; intro gb104 hg w5 BK104 hb; have GW104 := As.mk (gs w hg); replace HB := bs w hb; clear hb hg) | ((with_reducible refine gate_dst (N := 2) rfl ?_); refine bxe 2 #[.slice none 0 0, .slice none 0 0, .slice none 0 0, .int .i64 0, .int .i64 0] 34 ?_; intro gb105 hg w6 BK105 hb; have GW105 := As.mk (gs w hg); replace HB := bs w hb; have NB104_105 := As.mk (nl hg (bx BK104.out)); have NB105_104 := As.mk (ng hg (bx BK104.out)); replace BK104 := bb BK104 hb; clear hb hg; have hnb7 := NB104_105.out; have hnc7 := NB105_104.out; obtain ⟨y8a, y8b, y8c, y8d, y8e, v8a, v8b, v8c, v8d, v8e⟩ := cl5 BK104.out) | ((with_reducible refine gate_builtin (b := .append) (xs := #[(.const (.slice none 0 0)), .tmp 4]) rfl ?_); at_builtin; refine Kd.R_append_rows k93 (w0 := w) w.heap.size rfl (.const (.slice none 0 0)) (.tmp 4) 32 93 (.agg #[(.bool false), (.int .i64 0)]) 16 rfl Try.underlying32 info93 rfl (by decide) (by omega) (.slice none 0 0) ([] : List (S93)) l0_0 _ _ _ (fun _ => True) (fun _ => False) rfl rfl ?aO ?aR (fun _ _ h => h) (fun _ h => h.elim) ?aF ?aB ?aS ?aL ?_; (case aR => repeat (first | exact (Kd.C_below HR0_0.out HB.out) | (with_reducible refine Kd.C_alloc ?_ _) | (with_reducible refine Kd.C_drewN ?_ _) | (with_reducible refine Kd.C_drew ?_))); (case aB => exact (be w)); (case aF => exact (fun _ _ => trivial)); (case aO => exact ((Kd.R_nil _ _ _ _ (fun _ => True)))); (case aS => exact (below_size (be w))); (case aL => have := LMc2.out; omega); intro v107 w9 ho hb hg hat; rw [← Ny106.out] at ho; replace BK104 := As.mk (blk_grown (g := gb104) (o := .cells #[.slice A0_0 l0_0.length c0_0, .slice A0_1 l0_1.length c0_1, .slice A0_2 l0_2.length c0_2, .int .i64 a0_3, .int .i64 a0_4] 34 (0, 0)) (bx BK104.out) hg (by simp [Value.ownBlock])); replace BK105 := As.mk (blk_grown (g := gb105) (o := .cells #[.slice none 0 0, .slice none 0 0, .slice none 0 0, .int .i64 0, .int .i64 0] 34 (0, 0)) (bx BK105.out) hg (by simp [Value.ownBlock])); replace HB := As.mk (hb); have HO108 := As.mk (ho); clear ho hb hg hat; obtain ⟨Ao10, co10, eo10⟩ := Kd.R_slice HO108.out; subst eo10; obtain ⟨y11a, y11b, y11c, y11d, y11e, v11a, v11b, v11c, v11d, v11e⟩ := cl5 BK104.out))
 generalize hW_ : (w9.setCell ⟨gb104, 0, none⟩ (.slice Ao10 y106.length co10)) = w12
 have n0_ : As (Kd.R k93 93 w12 w.heap.size (fun _ => True) (.slice Ao10 y106.length co10) y106) := ⟨by rw [← hW_]; (with_reducible repeat (first | apply Kd.R_alloc | apply Kd.R_drewN | apply Kd.R_drew)); exact Kd.R_mono (Kd.R_far (p := ⟨gb104, 0, none⟩) (Kd.R_types HO108.out BK104.out (by decide)) (fun _ hk => hk.2) (.slice Ao10 y106.length co10)) (fun _ hk => trivial)⟩; have n1_ : As (w12.heap[gb104]? = some (.cells #[.slice Ao10 y106.length co10, .slice A0_1 l0_1.length c0_1, .slice A0_2 l0_2.length c0_2, .int .i64 a0_3, .int .i64 a0_4] 34 (0, 0))) := ⟨by rw [← hW_]; refine pl ?_; refine blk_put (cs := #[.slice A0_0 l0_0.length c0_0, .slice A0_1 l0_1.length c0_1, .slice A0_2 l0_2.length c0_2, .int .i64 a0_3, .int .i64 a0_4]) ?_ 0 _ rfl; exact bx BK104.out⟩; have n2_ : As (w12.heap[gb105]? = some (.cells #[.slice none 0 0, .slice none 0 0, .slice none 0 0, .int .i64 0, .int .i64 0] 34 (0, 0))) := ⟨by rw [← hW_]; refine pl ?_; refine blk_far ?_ NB105_104.out _; exact bx BK105.out⟩; have n3_ : As (Below w.heap.size w w12) := ⟨by rw [← hW_]; exact be w⟩; (try clear HO108); (try clear BK104); (try clear BK105); (try clear HB); clear hW_; have HO108 := n0_; have BK104 := n1_; have BK105 := n2_; have HB := n3_; clear n0_ n1_ n2_ n3_; replace HO108 := As.mk (Kd.R_drew HO108.out); replace BK104 := As.mk (blk_drew BK104.out); replace BK105 := As.mk (blk_drew BK105.out); replace HB := As.mk (below_drew1 HB.out)
 refine start_ (n := 10) (S := _) (ds := [7, 9]) #[O,O,O,O,O,O,O,O,O,O] (by kernel_rfl) rfl rfl (bf BK104.out) (fun hHeld => ?_); refine with_tabW impl_copyMemory.tab2 impl_copyMemory.bits2 (fun HT_ HW_ => ?_)
 generalize w12.drew = w13 at HO108 BK104 BK105 HB hHeld ⊢
 refine pq 0 7 HT_ _ _ ?_; refine pq 3 10 HT_ _ _ ?_; refine tq_b5 1 8 HT_ HW_.out hHeld _ _ ?_; refine tq_b5 4 11 HT_ HW_.out hHeld _ _ ?_; refine on 2 (some 9) HT_ (fun K hK => ?_); refine goS Try.func68 #[.slice A0_1 l0_1.length c0_1] ?_
 with_reducible refine (impl_copyInts.calls _ _ l0_1 t109 _ ?side1 ?side2 A3.out).mono ?_
 (case side1 => exact Kd.C_below HR0_1.out (be w))
 (case side2 => exact HC0_1.out)
 rintro e w14 ⟨v110, rfl, ho0, hb⟩
 refine ⟨_, rfl, ?_⟩
 replace HO108 := rb HO108 hb; have HO111 := As.mk (Kd.R_lower ho0 (below_size (be w))); replace BK104 := bb BK104 hb; replace BK105 := bb BK105 hb; replace HB := bs w hb; (try clear hb); (try clear hb2); (try clear hk); (try clear hi); (try clear ho0)
 refine hK.out _ _ (bf BK104.out) (fun hHeld => ?_)
 clear hK K; refine nm _ ?_; refine pq 6 13 HT_ _ _ ?_; refine on 5 (some 12) HT_ (fun K hK => ?_); refine goS Try.func68 #[.slice A0_2 l0_2.length c0_2] ?_
 with_reducible refine (impl_copyInts.calls _ _ l0_2 t112 _ ?side1 ?side2 A4.out).mono ?_
 (case side1 => exact Kd.C_below HR0_2.out (be w))
 (case side2 => exact HC0_2.out)
 rintro e w15 ⟨v113, rfl, ho0, hb⟩
 refine ⟨_, rfl, ?_⟩
 replace HO108 := rb HO108 hb; have HO114 := As.mk (Kd.R_lower (Kd.R_new' ho0 (Kd.R_lt (ra HO111.out))) (below_size (be w))); replace HO111 := As.mk (Kd.R_elder' (ra HO111.out) (Kd.R_base ho0) hb); replace BK104 := bb BK104 hb; replace BK105 := bb BK105 hb; replace HB := bs w hb; (try clear hb); (try clear hb2); (try clear hk); (try clear hi); (try clear ho0); obtain ⟨Ao16, co16, eo16⟩ := Kd.R_slice HO111.out
 (first | subst eo16 | (injection eo16 with f1_ f2_ f3_; have f4_ := f1_.symm; have f5_ := f3_.symm; clear f1_ f2_ f3_; subst f4_; subst f5_))
 obtain ⟨Ao18, co18, eo18⟩ := Kd.R_slice HO114.out
 (first | subst eo18 | (injection eo18 with f1_ f2_ f3_; have f4_ := f1_.symm; have f5_ := f3_.symm; clear f1_ f2_ f3_; subst f4_; subst f5_))
 refine hK.out _ _ (bf BK104.out) (fun hHeld => ?_)
 clear hK K; refine nm _ ?_
 refine last_ (i := 7) (N := none) #[I,I,I,I,I,I,I,I,O,O] rfl rfl (one_of HT_.out (by kernel_rfl)) (by decide) (fun K hK => ?_)
 have hs17 : w15.cell? ⟨gb104, 1, none⟩ = some (.slice A0_1 l0_1.length c0_1) := (blk_cell BK104.out 1).trans rfl; have hfs17 := blk_frozen BK104.out 1; have hns17_1 := NB105_104.out; have hms17_1 := NB104_105.out
 refine skip_ (w1 := ?_) (by rfl) rfl ?_ ?_
 rotate_left; · go_simp; rfl
 refine hK.out _ _ ?_
 clear hK K; refine pq 8 14 HT_ _ _ ?_
 refine last_ (i := 9) (N := none) #[I,I,I,I,I,I,I,I,I,I] rfl rfl (one_of HT_.out (by kernel_rfl)) (by decide) (fun K hK => ?_)
 have hs19 : w15.cell? ⟨gb104, 2, none⟩ = some (.slice A0_2 l0_2.length c0_2) := (blk_cell BK104.out 2).trans rfl; have hfs19 := blk_frozen BK104.out 2; have hns19_1 := NB105_104.out; have hms19_1 := NB104_105.out
 refine skip_ (w1 := ?_) (by rfl) rfl ?_ ?_
 rotate_left; · go_simp; rfl
 refine hK.out _ _ ?_
 clear hK K
 refine done_ (done_of HT_.out (by kernel_rfl)) ?_
 obtain ⟨y20a, y20b, y20c, y20d, y20e, v20a, v20b, v20c, v20d, v20e⟩ := cl5 BK104.out; obtain ⟨y21a, y21b, y21c, y21d, y21e, v21a, v21b, v21c, v21d, v21e⟩ := cl5 BK105.out
 try go_wp2
 refine bodyPost_ret (results_cell_row rfl _ _ gb105 34 #[.slice Ao10 y106.length co10, .slice Ao16 t109.length co16, .slice Ao18 t112.length co18, .int .i64 a0_3, .int .i64 a0_4] (0, 0) _ rfl (by refine pl ?_; refine blk_put (cs := #[.slice Ao10 y106.length co10, .slice Ao16 t109.length co16, .slice Ao18 t112.length co18, .int .i64 a0_3, .int .i64 0]) ?_ 4 _ rfl; refine pl ?_; refine blk_put (cs := #[.slice Ao10 y106.length co10, .slice Ao16 t109.length co16, .slice Ao18 t112.length co18, .int .i64 0, .int .i64 0]) ?_ 3 _ rfl; refine pl ?_; refine blk_put (cs := #[.slice Ao10 y106.length co10, .slice Ao16 t109.length co16, .slice none 0 0, .int .i64 0, .int .i64 0]) ?_ 2 _ rfl; refine pl ?_; refine blk_put (cs := #[.slice Ao10 y106.length co10, .slice none 0 0, .slice none 0 0, .int .i64 0, .int .i64 0]) ?_ 1 _ rfl; refine pl ?_; refine blk_put (cs := #[.slice none 0 0, .slice none 0 0, .slice none 0 0, .int .i64 0, .int .i64 0]) ?_ 0 _ rfl; refine pl ?_; refine blk_far ?_ NB105_104.out _; refine pl ?_; refine blk_far ?_ NB105_104.out _; exact bx BK105.out) Try.underlying34 rfl (by kernel_rfl)) rfl ?_
 exact ⟨_, _, _, ez, by (with_reducible repeat (first | apply Kd.R_alloc | apply Kd.R_drewN | apply Kd.R_drew)); exact Kd.R_mono (Kd.R_far (p := ⟨gb105, 4, none⟩) (Kd.R_far (p := ⟨gb105, 3, none⟩) (Kd.R_far (p := ⟨gb105, 2, none⟩) (Kd.R_far (p := ⟨gb105, 1, none⟩) (Kd.R_far (p := ⟨gb105, 0, none⟩) (Kd.R_far (p := ⟨gb104, 2, none⟩) (Kd.R_far (p := ⟨gb104, 1, none⟩) (Kd.R_types (Kd.R_types HO108.out BK104.out (by decide)) BK105.out (by decide)) (fun _ hk => hk.1.2) (.slice Ao16 t109.length co16)) (fun _ hk => hk.1.2) (.slice Ao18 t112.length co18)) (fun _ hk => hk.2) (.slice Ao10 y106.length co10)) (fun _ hk => hk.2) (.slice Ao16 t109.length co16)) (fun _ hk => hk.2) (.slice Ao18 t112.length co18)) (fun _ hk => hk.2) (.int .i64 a0_3)) (fun _ hk => hk.2) (.int .i64 a0_4)) (fun _ hk => trivial), by (with_reducible repeat (first | apply Kd.R_alloc | apply Kd.R_drewN | apply Kd.R_drew)); exact Kd.R_mono (Kd.R_far (p := ⟨gb105, 4, none⟩) (Kd.R_far (p := ⟨gb105, 3, none⟩) (Kd.R_far (p := ⟨gb105, 2, none⟩) (Kd.R_far (p := ⟨gb105, 1, none⟩) (Kd.R_far (p := ⟨gb105, 0, none⟩) (Kd.R_far (p := ⟨gb104, 2, none⟩) (Kd.R_far (p := ⟨gb104, 1, none⟩) (Kd.R_types (Kd.R_types HO111.out BK104.out (by decide)) BK105.out (by decide)) (fun _ hk => hk.1.2) (.slice Ao16 t109.length co16)) (fun _ hk => hk.1.2) (.slice Ao18 t112.length co18)) (fun _ hk => hk.2) (.slice Ao10 y106.length co10)) (fun _ hk => hk.2) (.slice Ao16 t109.length co16)) (fun _ hk => hk.2) (.slice Ao18 t112.length co18)) (fun _ hk => hk.2) (.int .i64 a0_3)) (fun _ hk => hk.2) (.int .i64 a0_4)) (fun _ hk => hk.1.1.2), by (with_reducible repeat (first | apply Kd.R_alloc | apply Kd.R_drewN | apply Kd.R_drew)); exact Kd.R_mono (Kd.R_far (p := ⟨gb105, 4, none⟩) (Kd.R_far (p := ⟨gb105, 3, none⟩) (Kd.R_far (p := ⟨gb105, 2, none⟩) (Kd.R_far (p := ⟨gb105, 1, none⟩) (Kd.R_far (p := ⟨gb105, 0, none⟩) (Kd.R_far (p := ⟨gb104, 2, none⟩) (Kd.R_far (p := ⟨gb104, 1, none⟩) (Kd.R_types (Kd.R_types HO114.out BK104.out (by decide)) BK105.out (by decide)) (fun _ hk => hk.1.2) (.slice Ao16 t109.length co16)) (fun _ hk => hk.1.2) (.slice Ao18 t112.length co18)) (fun _ hk => hk.2) (.slice Ao10 y106.length co10)) (fun _ hk => hk.2) (.slice Ao16 t109.length co16)) (fun _ hk => hk.2) (.slice Ao18 t112.length co18)) (fun _ hk => hk.2) (.int .i64 a0_3)) (fun _ hk => hk.2) (.int .i64 a0_4)) (fun _ hk => hk.1.1.2), be w⟩
-- NOT PRINTED: function 43 (impl_Memory_fresh)

/-! ### impl_in: function 71 -/
def impl_in.f (a0 : Int) (a1 : Int) (a2 : Int) : Option (Bool) := if a0 ≥ a1 then (some (decide (a0 ≤ a2))) else (some false)
set_option maxHeartbeats 8000000 in
set_option maxRecDepth 100000 in
theorem impl_in.calls (a0 : Int) (a1 : Int) (a2 : Int) (r : Bool) (w : World) (h : impl_in.f a0 a1 a2 = some r) :
  Calls Try.prog 71 #[.int .i64 a0, .int .i64 a1, .int .i64 a2] w fun e w' => e = .returned (.bool r) ∧ Drawn0 w w' := by
 have H : (if a0 ≥ a1 then (some (decide (a0 ≤ a2))) else (some false)) = some r := h; clear h
 by_cases c4 : a0 ≥ a1
 ·
  rw [if_pos c4] at H; have c4b0 : decide (a1 ≤ a0) = true := decide_eq_true c4; clear c4; obtain rfl := sj H; go_enter Try.func71, Try.ntmps71
  go_wp2
  go_ret
  exact dw
 rw [if_neg c4] at H; have c4b0 : decide (a1 ≤ a0) = false := decide_eq_false c4; clear c4; obtain rfl := sj H; go_enter Try.func71, Try.ntmps71
 go_wp2
 go_ret
 exact dw

-- NOT PRINTED: function 45 (impl_Memory_moved)

end Go.Proofs.Ytnlhjblfemgggaa.PFnExactMoved
