/- Written by a program of this session (a turned copy of the kit's print): a contract for each Go function. No condition beside those in each statement. -/
import Derived.Test.YtnepkmbknoanjaaDoorPFnExactCopyNodesx0
import Derived.Test.YtnepkmbknoanjaaDoorPFnExactCopyNodesx1
import Derived.Test.YtnepkmbknoanjaaDoorPFnExactCopyNodesx2
import Derived.Test.YtnepkmbknoanjaaDoorPFnExactCopyNodesx3
import Derived.Test.YtnepkmbknoanjaaDoorPFnExactCopyNodesx4
import Derived.Test.YtnepkmbknoanjaaDoorPFnExactCopyNodesx5
import Derived.Test.YtnepkmbknoanjaaDoorPFnExactCopyNodesx6
import Derived.Test.YtnepkmbknoanjaaDoorPFnExactCopyNodesx7
import Derived.Test.YtnepkmbknoanjaaDoorPFnExactCopyNodesx8
import Derived.Test.YtnepkmbknoanjaaDoorPFnExactCopyNodesx9
import Derived.Test.YtnepkmbknoanjaaDoorPFnExactCopyNodesx10
import Derived.Test.YtnepkmbknoanjaaDoorPFnExactCopyNodesx11
namespace Go.Proofs.YtnepkmbknoanjaaDoor.PFnExactCopyNodes
open Go.RowKit Go.Proofs.YtnepkmbknoanjaaDoor.Given Go.Proofs.YtnepkmbknoanjaaDoorW.PrintWords Go.Proofs.YtnepkmbknoanjaaDoorW.PrintLast Go.Proofs.YtnepkmbknoanjaaDoorW.PrintMore
attribute [local go_sem] max2_int min2_int max_two min_two max_three min_three max_four min_four   -- for this text's walks alone
set_option linter.unusedVariables false
set_option linter.unusedSimpArgs false

/-! ### by hand: impl_CopyNodes -/
theorem pkI_put.one (okT : Nat → Prop) (g : Nat) (tv : Value) (A : Option Addr) (c : Nat) (ns t : List S52) (b : Bool) (a : Int) (w0 W : World) (hB : Below w0.heap.size w0 W) (hg : w0.heap.size ≤ g) (hr : Kd.C k52 w0 A ns.length ns) (hx : W.heap[g]? = some (.cells #[.slice A ns.length c, tv, .bool b] 55 (0, 0)))
    (hT : Kd.S k52 52 W w0.heap.size okT tv t) (hgT : ¬ okT g) (p : Int) (tt : List S52) (bb : Bool) (hP : pkI_put ns 10 a t b = (p, tt, bb)) : Calls Tryd.prog 24 #[.pointer (some ⟨g, 0, none⟩), .int .i64 a, .int .i64 1] W fun e W' => ∃ tv', e = .returned (.int .i64 p) ∧ W'.heap[g]? = some (.cells #[.slice A ns.length c, tv', .bool bb] 55 (0, 0)) ∧ Kd.S k52 52 W' w0.heap.size (fun k => okT k ∨ W.heap.size ≤ k) tv' tt ∧ Below w0.heap.size w0 W' ∧ Kept W W' (fun k => k = g ∨ okT k) := by
  have h := pkI_put.calls 10 okT g tv A c ns t b a w0 W (by decide) hB hg hr hx hT hgT
  rw [hP] at h
  exact h
def impl_CopyNodes.f (k : Nat) (ns : List S52) (fs : List S69) (a : Int) (l : List S52) : Option (List S52 × Int) :=
  (impl_copyNodes.f k l).bind fun t => (impl_DeepOf.f k ns a).bind fun d => if (pkI_put ns 10 a t (d == 0)).2.2 = true then some (t, -1) else some ((pkI_put ns 10 a t (d == 0)).2.1, (pkI_put ns 10 a t (d == 0)).1)
theorem impl_CopyNodes.mono : ∀ a0 a1 a2 a3 k, LeO (impl_CopyNodes.f k a0 a1 a2 a3) (impl_CopyNodes.f (k + 1) a0 a1 a2 a3) := by
 intro a0 a1 a2 a3 k
 unfold impl_CopyNodes.f
 with_reducible repeat' first | exact impl_copyNodes.mono _ _ | exact impl_DeepOf.mono _ _ _ | exact LeO.refl _ | refine LeO.ite ?_ ?_ | refine LeO.bind ?_ (fun _ => ?_)
set_option maxHeartbeats 8000000 in
set_option maxRecDepth 100000 in
theorem impl_CopyNodes.calls (k : Nat) (A0_0 : Option Addr) (c0_0 : Nat) (l0_0 : List (S52)) (A0_1 : Option Addr) (c0_1 : Nat) (l0_1 : List (S69)) (a1 : Int) (A2 : Option Addr) (c2 : Nat) (l2 : List (S52)) (r1 : List (S52)) (r2 : Int) (w : World) (hr0_0 : Kd.C k52 w A0_0 l0_0.length l0_0) (hc0_0 : l0_0.length ≤ c0_0) (hr0_1 : Kd.C k69 w A0_1 l0_1.length l0_1) (hc0_1 : l0_1.length ≤ c0_1) (hr2 : Kd.C k52 w A2 l2.length l2) (hc2 : l2.length ≤ c2) (h : impl_CopyNodes.f k l0_0 l0_1 a1 l2 = some (r1, r2)) :
  Calls Tryd.prog 9 #[.agg #[.slice A0_0 l0_0.length c0_0, .slice A0_1 l0_1.length c0_1], .int .i64 a1, .slice A2 l2.length c2] w fun e w' => ∃ v0_ : Value, e = .returned (.tuple #[v0_, .int .i64 r2]) ∧ Kd.S k52 52 w' w.heap.size (fun _ => True) v0_ r1 ∧ Below w.heap.size w w' := by
 have HR0_0 := As.mk hr0_0
 have HC0_0 := As.mk hc0_0
 have HR2 := As.mk hr2
 have HC2 := As.mk hc2
 clear hr0_0 hc0_0 hr0_1 hc0_1 hr2 hc2
 have HB := As.mk (Below.refl w.heap.size w)
 have H : ((impl_copyNodes.f k l2).bind fun t => (impl_DeepOf.f k l0_0 a1).bind fun d => if (pkI_put l0_0 10 a1 t (d == 0)).2.2 = true then some (t, -1) else some ((pkI_put l0_0 10 a1 t (d == 0)).2.1, (pkI_put l0_0 10 a1 t (d == 0)).1)) = some (r1, r2) := h
 clear h
 obtain ⟨t, A3, H⟩ := Option.bind_eq_some_iff.mp H
 obtain ⟨d, A4, H⟩ := Option.bind_eq_some_iff.mp H
 have AT := As.mk A3
 have AD := As.mk A4
 clear A3 A4
 obtain ⟨⟨p, tt, bb⟩, hP⟩ : ∃ res, pkI_put l0_0 10 a1 t (d == 0) = res := ⟨_, rfl⟩
 rw [hP] at H
 dsimp only at H
 have HRES := As.mk H
 have HP := As.mk hP
 clear H hP
 go_enter Tryd.func9, Tryd.ntmps9
 go_wp2_with (first | ((with_reducible refine gate_dst (N := 3) rfl ?_); refine box_event ?hg (N := 3) ?hd (cs := #[.slice A0_0 l0_0.length c0_0, .slice A0_1 l0_1.length c0_1]) (t := 33) ?hr ?_; (case hd => rfl); (case hg => rfl); (case hr => first | (go_simp; done) | (go_simp; rfl)); intro bp hg w1 hbox hb; have BP := As.mk hbox; have GP := As.mk (gs w hg); replace HB := As.mk (below_step (be w) hb); clear hb hbox hg))
 replace BP := As.mk (blk_drew BP.out)
 replace HB := As.mk (below_drew1 HB.out)
 refine start_ (n := 7) (S := fun w' => w'.cell? ⟨bp, 0, none⟩ = some (.slice A0_0 l0_0.length c0_0)) (ds := [6]) #[O,O,O,O,O,O,O] (by kernel_rfl) rfl rfl ((blk_cell BP.out 0).trans rfl) (fun hHeld => ?_)
 generalize w1.drew = w2 at BP HB hHeld ⊢
 refine pure_ (i := 0) (N := some 10) (v := ?_) (a' := ?_) #[I,O,O,O,O,O,O] rfl rfl (by kernel_rfl) (fun _ _ _ h => h) (Or.inl ⟨by rfl, ?_⟩) ?_ ?_
 rotate_left; · intro w'; go_simp; with_reducible rfl
 rotate_left; · simp only [pk, i64_w, i32_w]; rfl
 refine take_ (i := 1) (N := some 11) (v := ?_) (a' := ?_) #[I,I,O,O,O,O,O] rfl rfl (by kernel_rfl) (fun _ _ _ h => h) (Or.inl ⟨by rfl, ?_⟩) hHeld ?_ ?_
 rotate_left; · rintro w' s0; go_simp; with_reducible rfl
 rotate_left; · simp only [pk, i64_w, i32_w]; rfl
 refine pure_ (i := 2) (N := some 12) (v := ?_) (a' := ?_) #[I,I,I,O,O,O,O] rfl rfl (by kernel_rfl) (fun _ _ _ h => h) (Or.inl ⟨by rfl, ?_⟩) ?_ ?_
 rotate_left; · intro w'; go_simp; with_reducible rfl
 rotate_left; · simp only [pk, i64_w, i32_w]; rfl
 refine join_ (σ := Value × Nat) 1 #[I,I,I,I,I,I,O] (fun s => [(13, s.1), (14, .agg #[.slice A0_0 l0_0.length c0_0, s.1, .bool false]), (8, .pointer (some ⟨s.2, 0, none⟩))]) (fun s w' => w'.heap[bp]? = some (.cells #[.slice A0_0 l0_0.length c0_0, .slice A0_1 l0_1.length c0_1] 33 (0, 0)) ∧ w'.heap[s.2]? = some (.cells #[.slice none 0 0, .slice none 0 0, .bool false] 55 (0, 0)) ∧ Below w.heap.size w w' ∧ Kd.S k52 52 w' w.heap.size (fun k => k ≠ s.2) s.1 t ∧ w.heap.size ≤ s.2 ∧ s.2 ≠ bp) ?_ ?_
 rotate_left
 ·
  intro hcont
  refine two_ (i := 3) (j := 5) (Ni := some 13) (Nj := some 8) #[I,I,I,I,O,O,O] #[I,I,I,O,O,I,O] rfl rfl rfl rfl (by kernel_rfl) (by decide) (by decide) (fun K hK => ?_) (fun K hK => ?_)
  refine goes_ Tryd.func22 (by kernel_rfl) rfl #[.slice A2 l2.length c2] (by rfl) rfl rfl (by (try simp only [lm]); first | done | rfl | (simp only [List.length_drop, List.length_take]; rfl)) ?_
  with_reducible refine (impl_copyNodes.calls k _ _ l2 t _ ?side1 ?side2 AT.out).mono ?_
  (case side1 => exact Kd.C_below HR2.out (be w))
  (case side2 => exact HC2.out)
  rintro e w3 ⟨v13, rfl, ho0, hb⟩
  refine ⟨_, rfl, ?_⟩
  have HT := As.mk (Kd.S_lower (Kd.S_mono (ok' := fun k => k < w3.heap.size) (Kd.S_bound ho0) (fun k h => h.2.2.1)) (below_size (be w)))
  replace BP := As.mk (blk_below (bx BP.out) hb)
  replace HB := As.mk (below_step (be w) hb)
  clear hb ho0
  obtain ⟨At, ct, et⟩ := Kd.S_slice HT.out
  subst et
  refine hK.out _ _ ((blk_cell BP.out 0).trans rfl) (fun hHeld => ?_)
  clear hK K
  refine norm_ (a' := ?_) ?_ ?_
  rotate_left
  ·
   show Act.put _ (some 13) _ = _
   simp only [pk, i64_w, i32_w]
   rfl
  refine pure_ (i := 4) (N := some 14) (v := ?_) (a' := ?_) #[I,I,I,I,I,O,O] rfl rfl (by kernel_rfl) (fun _ _ _ h => h) (Or.inl ⟨by rfl, ?_⟩) ?_ ?_
  rotate_left; · intro w'; go_simp; with_reducible rfl
  rotate_left; · simp only [pk, i64_w, i32_w]; rfl
  refine one_ (i := 5) (N := some 8) #[I,I,I,I,I,I,O] rfl rfl (by kernel_rfl) (by decide) (fun K hK => ?_)
  refine box_step ?hg (N := 8) ?hd (cs := #[.slice none 0 0, .slice none 0 0, .bool false]) (t := 55) ?hr ?_; (case hd => rfl); (case hg => rfl); (case hr => first | (go_simp; done) | (go_simp; rfl))
  intro g hg w4 hbox hb
  have HH := As.mk (hcont (.slice At t.length ct, g) w4 ⟨blk_below BP.out hb, hbox, below_step (be w) hb, Kd.S_mono (Kd.S_below HT.out hb) (fun k h e => by rw [e, hg] at h; exact Nat.lt_irrefl _ h), gs w hg, by rw [hg]; exact Nat.ne_of_gt (blk_lt BP.out)⟩)
  refine hK.out _ _ ((blk_cell (blk_below BP.out hb) 0).trans rfl) (fun hHeld => ?_)
  exact HH.out
  refine box_step ?hg (N := 8) ?hd (cs := #[.slice none 0 0, .slice none 0 0, .bool false]) (t := 55) ?hr ?_; (case hd => rfl); (case hg => rfl); (case hr => first | (go_simp; done) | (go_simp; rfl))
  intro g hg w4 hbox hb
  have HX := As.mk hbox
  have HG := As.mk (gs w hg)
  have HNE := As.mk (show g ≠ bp by rw [hg]; exact Nat.ne_of_gt (blk_lt BP.out))
  replace BP := As.mk (blk_below BP.out hb)
  replace HB := As.mk (below_step (be w) hb)
  clear hb hbox hg hHeld
  refine hK.out _ _ ((blk_cell BP.out 0).trans rfl) (fun hHeld => ?_)
  clear hK K
  refine norm_ (a' := ?_) ?_ ?_
  rotate_left
  ·
   show Act.put _ (some 8) _ = _
   simp only [pk, i64_w, i32_w]
   rfl
  refine one_ (i := 3) (N := some 13) #[I,I,I,I,O,I,O] rfl rfl (by kernel_rfl) (by decide) (fun K hK => ?_)
  refine goes_ Tryd.func22 (by kernel_rfl) rfl #[.slice A2 l2.length c2] (by rfl) rfl rfl (by (try simp only [lm]); first | done | rfl | (simp only [List.length_drop, List.length_take]; rfl)) ?_
  with_reducible refine (impl_copyNodes.calls k _ _ l2 t _ ?side1 ?side2 AT.out).mono ?_
  (case side1 => exact Kd.C_below HR2.out (be w))
  (case side2 => exact HC2.out)
  rintro e w3 ⟨v13, rfl, ho0, hb⟩
  refine ⟨_, rfl, ?_⟩
  have HF := As.mk (show _ from (⟨blk_below (bx BP.out) hb, blk_below (bx HX.out) hb, below_step (be w) hb, Kd.S_lower (Kd.S_mono (Kd.S_bound ho0) (fun k h e => by have h2 := h.2.1; rw [e] at h2; exact Nat.not_lt.2 h2 (blk_lt HX.out))) (below_size (be w)), HG.out, HNE.out⟩ : w3.heap[bp]? = some (.cells #[.slice A0_0 l0_0.length c0_0, .slice A0_1 l0_1.length c0_1] 33 (0, 0)) ∧ w3.heap[g]? = some (.cells #[.slice none 0 0, .slice none 0 0, .bool false] 55 (0, 0)) ∧ Below w.heap.size w w3 ∧ Kd.S k52 52 w3 w.heap.size (fun k => k ≠ g) v13 t ∧ w.heap.size ≤ g ∧ g ≠ bp))
  obtain ⟨At, ct, et⟩ := Kd.S_slice ho0
  subst et
  refine hK.out _ _ ((blk_cell HF.out.1 0).trans rfl) (fun hHeld => ?_)
  clear hK K hb ho0
  refine norm_ (a' := ?_) ?_ ?_
  rotate_left
  ·
   show Act.put _ (some 13) _ = _
   simp only [pk, i64_w, i32_w]
   rfl
  refine pure_ (i := 4) (N := some 14) (v := ?_) (a' := ?_) #[I,I,I,I,I,I,O] rfl rfl (by kernel_rfl) (fun _ _ _ h => h) (Or.inl ⟨by rfl, ?_⟩) ?_ ?_
  rotate_left; · intro w'; go_simp; with_reducible rfl
  rotate_left; · simp only [pk, i64_w, i32_w]; rfl
  exact hcont (.slice At t.length ct, g) w3 HF.out
 rintro ⟨v13, g⟩ w4 ⟨bp4, hx4, hb4, ht4, hg4, hn4⟩
 dsimp only at hx4 ht4 hg4 hn4
 have BP4 := As.mk bp4
 have HX := As.mk hx4
 have HT := As.mk ht4
 have HG := As.mk hg4
 have HNE := As.mk hn4
 replace HB := As.mk hb4
 clear bp4 hx4 hb4 ht4 hg4 hn4 BP hHeld
 obtain ⟨At, ct, et⟩ := Kd.S_slice HT.out
 subst et
 refine norm_ (a' := ?_) ?_ ?_
 rotate_left
 ·
  simp only [putAll, pk, i64_w, i32_w]
  rfl
 obtain ⟨hc0, hc1, hc2, hf0, hf1, hf2⟩ := cl3x HX.out
 refine last_ (i := 6) (N := none) #[I,I,I,I,I,I,I] rfl rfl (by kernel_rfl) (by decide) (fun K hK => ?_)
 refine skip_ (w1 := ?_) (by rfl) rfl ?_ ?_
 rotate_left; · go_simp; rfl
 refine hK.out _ _ ?_
 clear hK K
 refine done_ (by kernel_rfl) ?_
 generalize hw : (((w4.setCell ⟨g, 0, none⟩ (.slice A0_0 l0_0.length c0_0)).setCell ⟨g, 1, none⟩ (.slice At t.length ct)).setCell ⟨g, 2, none⟩ (.bool false)) = w5
 have HX5 := As.mk (show w5.heap[g]? = some (.cells #[.slice A0_0 l0_0.length c0_0, .slice At t.length ct, .bool false] 55 (0, 0)) by
  rw [← hw]
  exact blk_put (cs := #[.slice A0_0 l0_0.length c0_0, .slice At t.length ct, .bool false]) (blk_put (cs := #[.slice A0_0 l0_0.length c0_0, .slice none 0 0, .bool false]) (blk_put (cs := #[.slice none 0 0, .slice none 0 0, .bool false]) HX.out 0 _ rfl) 1 _ rfl) 2 _ rfl)
 have BP5 := As.mk (show w5.heap[bp]? = some (.cells #[.slice A0_0 l0_0.length c0_0, .slice A0_1 l0_1.length c0_1] 33 (0, 0)) by
  rw [← hw]
  exact blk_far (blk_far (blk_far BP4.out HNE.out.symm _) HNE.out.symm _) HNE.out.symm _)
 have HT5 := As.mk (show Kd.S k52 52 w5 w.heap.size (fun k => k ≠ g) (.slice At t.length ct) t by
  rw [← hw]
  exact Kd.S_far (Kd.S_far (Kd.S_far HT.out (fun k h => h) _) (fun k h => h) _) (fun k h => h) _)
 have HB5 := As.mk (show Below w.heap.size w w5 by
  rw [← hw]
  exact below_set (below_set (below_set HB.out HG.out) HG.out) HG.out)
 clear hw hc0 hc1 hc2 hf0 hf1 hf2 HX BP4 HT HB
 obtain ⟨hb0, hb1, gb0, gb1⟩ := cl2 BP5.out
 go_upto_region 4 with (first | ((with_reducible refine gate_callee (f := 23) rfl ?_); refine goesL_ (some 18) rfl rfl Tryd.func23 (by kernel_rfl) rfl #[.slice A0_0 l0_0.length c0_0, .int .i64 a1] rfl (by (try simp only [lm]); first | done | rfl | (simp only [List.length_drop, List.length_take]; rfl)) ?_; (with_reducible refine (impl_DeepOf.calls k _ _ l0_0 a1 d _ ?side1 ?side2 AD.out).mono ?_); (case side1 => exact Kd.C_below HR0_0.out (be w)); (case side2 => exact HC0_0.out); rintro e w6 ⟨rfl, hb⟩; refine ⟨_, rfl, ?_⟩; have HX6 := As.mk (blk_below HX5.out hb); have HT6 := As.mk (Kd.S_below HT5.out hb); have HB6 := As.mk (below_step HB5.out hb); clear hb HX5 HT5 HB5 BP5 hb0 hb1 gb0 gb1; obtain ⟨hc0, hc1, hc2, hf0, hf1, hf2⟩ := cl3x HX6.out) | ((with_reducible refine gate_callee (f := 24) rfl ?_); refine goesL_ (some 22) rfl rfl Tryd.func24 (by kernel_rfl) rfl #[.pointer (some ⟨g, 0, none⟩), .int .i64 a1, .int .i64 1] rfl (by (try simp only [lm]); first | done | rfl | (simp only [List.length_drop, List.length_take]; rfl)) ?_; (refine (pkI_put.one (fun k => k ≠ g) g (.slice At t.length ct) A0_0 c0_0 l0_0 t (d == 0) a1 w _ ?hB ?hg ?hr ?hx ?hT ?hgT p tt bb HP.out).mono ?_); (case hB => exact below_set HB6.out HG.out); (case hg => exact HG.out); (case hr => exact HR0_0.out); (case hx => exact blk_put (cs := #[_, _, .bool false]) HX6.out 2 _ rfl); (case hT => exact Kd.S_far HT6.out (fun k h => h) _); (case hgT => exact fun h => h rfl); rintro e w7 ⟨tv7, rfl, hx7, hT7, hB7, hK7⟩; refine ⟨_, rfl, ?_⟩; have HX7 := As.mk hx7; have HT7 := As.mk (Kd.S_mono (ok' := fun _ => True) hT7 (fun _ _ => trivial)); have HB7 := As.mk hB7; clear hx7 hT7 hB7 hK7 hc0 hc1 hc2 hf0 hf1 hf2 HX6 HT6 HB6))
 obtain ⟨hc0, hc1, hc2, hf0, hf1, hf2⟩ := cl3x HX7.out
 have H := HRES.out
 cases bb with
 | true =>
  rw [if_pos rfl] at H
  simp only [Option.some.injEq, Prod.mk.injEq] at H
  obtain ⟨rfl, rfl⟩ := H
  go_wp2_with (first | ((with_reducible refine gate_callee (f := 22) rfl ?_); refine goesL_ (some 26) rfl rfl Tryd.func22 (by kernel_rfl) rfl #[.slice A2 l2.length c2] rfl (by (try simp only [lm]); first | done | rfl | (simp only [List.length_drop, List.length_take]; rfl)) ?_; (with_reducible refine (impl_copyNodes.calls k _ _ l2 t _ ?side1 ?side2 AT.out).mono ?_); (case side1 => exact Kd.C_below HR2.out HB7.out); (case side2 => exact HC2.out); rintro e w8 ⟨v26, rfl, ho0, hb⟩; refine ⟨_, rfl, ?_⟩; have HT8 := As.mk (Kd.S_lower ho0 (below_size HB7.out)); have HB8 := As.mk (below_step HB7.out hb); clear ho0 hb))
  go_ret2
  exact ⟨_, ez, HT8.out, HB8.out⟩
 | false =>
  rw [if_neg (by decide)] at H
  simp only [Option.some.injEq, Prod.mk.injEq] at H
  obtain ⟨rfl, rfl⟩ := H
  obtain ⟨A7, c7, e7⟩ := Kd.S_slice HT7.out
  subst e7
  go_wp2_with (fail)
  go_ret2
  exact ⟨_, ez, HT7.out, HB7.out⟩

/-! ### by hand: spec_CopyNodes -/
theorem pkS_put.one (okT : Nat → Prop) (g : Nat) (tv : Value) (A : Option Addr) (c : Nat) (ns t : List S52) (b : Bool) (a : Int) (w0 W : World) (hB : Below w0.heap.size w0 W) (hg : w0.heap.size ≤ g) (hr : Kd.C k52 w0 A ns.length ns) (hx : W.heap[g]? = some (.cells #[.slice A ns.length c, tv, .bool b] 49 (0, 0)))
    (hT : Kd.S k52 52 W w0.heap.size okT tv t) (hgT : ¬ okT g) (p : Int) (tt : List S52) (bb : Bool) (hP : pkS_put ns 10 a t b = (p, tt, bb)) : Calls Tryd.prog 19 #[.pointer (some ⟨g, 0, none⟩), .int .i64 a, .int .i64 1] W fun e W' => ∃ tv', e = .returned (.int .i64 p) ∧ W'.heap[g]? = some (.cells #[.slice A ns.length c, tv', .bool bb] 49 (0, 0)) ∧ Kd.S k52 52 W' w0.heap.size (fun k => okT k ∨ W.heap.size ≤ k) tv' tt ∧ Below w0.heap.size w0 W' ∧ Kept W W' (fun k => k = g ∨ okT k) := by
  have h := pkS_put.calls 10 okT g tv A c ns t b a w0 W (by decide) hB hg hr hx hT hgT
  rw [hP] at h
  exact h
def spec_CopyNodes.f (k : Nat) (ns : List S52) (fs : List S69) (a : Int) (l : List S52) : Option (List S52 × Int) :=
  (spec_DeepOf.f k ns a).bind fun d => if d = 0 ∨ 300 < l.length then (spec_l04Nodes.f k l).bind fun t => some (t, -1) else (spec_l04Nodes.f k l).bind fun t => if (pkS_put ns 10 a t false).2.2 = true ∨ 300 < (pkS_put ns 10 a t false).2.1.length then some (t, -1) else some ((pkS_put ns 10 a t false).2.1, (pkS_put ns 10 a t false).1)
theorem spec_CopyNodes.mono : ∀ a0 a1 a2 a3 k, LeO (spec_CopyNodes.f k a0 a1 a2 a3) (spec_CopyNodes.f (k + 1) a0 a1 a2 a3) := by
 intro a0 a1 a2 a3 k
 unfold spec_CopyNodes.f
 with_reducible repeat' first | exact spec_l04Nodes.mono _ _ | exact spec_DeepOf.mono _ _ _ | exact LeO.refl _ | refine LeO.ite ?_ ?_ | refine LeO.bind ?_ (fun _ => ?_)
set_option maxHeartbeats 8000000 in
set_option maxRecDepth 100000 in
theorem spec_CopyNodes.calls (k : Nat) (A0_0 : Option Addr) (c0_0 : Nat) (l0_0 : List (S52)) (A0_1 : Option Addr) (c0_1 : Nat) (l0_1 : List (S69)) (a1 : Int) (A2 : Option Addr) (c2 : Nat) (l2 : List (S52)) (r1 : List (S52)) (r2 : Int) (w : World) (hr0_0 : Kd.C k52 w A0_0 l0_0.length l0_0) (hc0_0 : l0_0.length ≤ c0_0) (hr0_1 : Kd.C k69 w A0_1 l0_1.length l0_1) (hc0_1 : l0_1.length ≤ c0_1) (hr2 : Kd.C k52 w A2 l2.length l2) (hc2 : l2.length ≤ c2) (h : spec_CopyNodes.f k l0_0 l0_1 a1 l2 = some (r1, r2)) :
  Calls Tryd.prog 6 #[.agg #[.slice A0_0 l0_0.length c0_0, .slice A0_1 l0_1.length c0_1], .int .i64 a1, .slice A2 l2.length c2] w fun e w' => ∃ v0_ : Value, e = .returned (.tuple #[v0_, .int .i64 r2]) ∧ Kd.S k52 52 w' w.heap.size (fun _ => True) v0_ r1 ∧ Below w.heap.size w w' := by
 have hlm : l2.length ≤ 9223372036854775807 := hr2.2.1
 have HR0_0 := As.mk hr0_0
 have HC0_0 := As.mk hc0_0
 have HR2 := As.mk hr2
 have HC2 := As.mk hc2
 clear hr0_0 hc0_0 hr0_1 hc0_1 hr2 hc2
 have HB := As.mk (Below.refl w.heap.size w)
 have H : ((spec_DeepOf.f k l0_0 a1).bind fun d => if d = 0 ∨ 300 < l2.length then (spec_l04Nodes.f k l2).bind fun t => some (t, -1) else (spec_l04Nodes.f k l2).bind fun t => if (pkS_put l0_0 10 a1 t false).2.2 = true ∨ 300 < (pkS_put l0_0 10 a1 t false).2.1.length then some (t, -1) else some ((pkS_put l0_0 10 a1 t false).2.1, (pkS_put l0_0 10 a1 t false).1)) = some (r1, r2) := h
 clear h
 obtain ⟨d, A4, H⟩ := Option.bind_eq_some_iff.mp H
 try dsimp only at H
 have AD := As.mk A4
 clear A4
 by_cases c5 : d = 0 ∨ 300 < l2.length
 ·
  rw [if_pos c5] at H
  obtain ⟨t, A3, H⟩ := Option.bind_eq_some_iff.mp H
  have AT := As.mk A3
  clear A3
  simp only [Option.some.injEq, Prod.mk.injEq] at H
  obtain ⟨rfl, rfl⟩ := H
  by_cases c6 : d = 0
  ·
   have c6b : (d == 0) = true := beq_iff_eq.mpr c6
   clear c5 c6
   go_enter Tryd.func6, Tryd.ntmps6
   go_wp2_with (first | ((with_reducible refine gate_dst (N := 3) rfl ?_); refine box_event ?hg (N := 3) ?hd (cs := #[.slice A0_0 l0_0.length c0_0, .slice A0_1 l0_1.length c0_1]) (t := 33) ?hr ?_; (case hd => rfl); (case hg => rfl); (case hr => first | (go_simp; done) | (go_simp; rfl)); intro bp hg w1 hbox hb; have BP := As.mk hbox; have GP := As.mk (gs w hg); replace HB := As.mk (below_step (be w) hb); clear hb hbox hg; obtain ⟨hb0, hb1, gb0, gb1⟩ := cl2 BP.out) | ((with_reducible refine gate_callee (f := 17) rfl ?_); refine goesL_ (some 13) rfl rfl Tryd.func17 (by kernel_rfl) rfl #[.slice A0_0 l0_0.length c0_0, .int .i64 a1] rfl (by (try simp only [lm]); first | done | rfl | (simp only [List.length_drop, List.length_take]; rfl)) ?_; (with_reducible refine (spec_DeepOf.calls k _ _ l0_0 a1 d _ ?side1 ?side2 AD.out).mono ?_); (case side1 => exact Kd.C_below HR0_0.out (be w)); (case side2 => exact HC0_0.out); rintro e w2 ⟨rfl, hb⟩; refine ⟨_, rfl, ?_⟩; replace BP := As.mk (blk_below (bx BP.out) hb); replace HB := As.mk (below_step (be w) hb); clear hb) | ((with_reducible refine gate_callee (f := 18) rfl ?_); refine goesL_ (some 21) rfl rfl Tryd.func18 (by kernel_rfl) rfl #[.slice A2 l2.length c2] rfl (by (try simp only [lm]); first | done | rfl | (simp only [List.length_drop, List.length_take]; rfl)) ?_; (with_reducible refine (spec_l04Nodes.calls k _ _ l2 t _ ?side1 ?side2 AT.out).mono ?_); (case side1 => exact Kd.C_below HR2.out (be w)); (case side2 => exact HC2.out); rintro e w3 ⟨v3, rfl, ho0, hb⟩; refine ⟨_, rfl, ?_⟩; have HT3 := As.mk (Kd.S_lower ho0 (below_size (be w))); have HB3 := As.mk (below_step (be w) hb); clear ho0 hb))
   go_ret2
   exact ⟨_, ez, HT3.out, HB3.out⟩
  ·
   have c6b : (d == 0) = false := beq_eq_false_iff_ne.mpr c6
   have c5b : decide ((300 : Int) < (l2.length : Int)) = true := decide_eq_true (by have := c5.resolve_left c6; omega)
   clear c5 c6
   go_enter Tryd.func6, Tryd.ntmps6
   go_wp2_with (first | ((with_reducible refine gate_dst (N := 3) rfl ?_); refine box_event ?hg (N := 3) ?hd (cs := #[.slice A0_0 l0_0.length c0_0, .slice A0_1 l0_1.length c0_1]) (t := 33) ?hr ?_; (case hd => rfl); (case hg => rfl); (case hr => first | (go_simp; done) | (go_simp; rfl)); intro bp hg w1 hbox hb; have BP := As.mk hbox; have GP := As.mk (gs w hg); replace HB := As.mk (below_step (be w) hb); clear hb hbox hg; obtain ⟨hb0, hb1, gb0, gb1⟩ := cl2 BP.out) | ((with_reducible refine gate_callee (f := 17) rfl ?_); refine goesL_ (some 13) rfl rfl Tryd.func17 (by kernel_rfl) rfl #[.slice A0_0 l0_0.length c0_0, .int .i64 a1] rfl (by (try simp only [lm]); first | done | rfl | (simp only [List.length_drop, List.length_take]; rfl)) ?_; (with_reducible refine (spec_DeepOf.calls k _ _ l0_0 a1 d _ ?side1 ?side2 AD.out).mono ?_); (case side1 => exact Kd.C_below HR0_0.out (be w)); (case side2 => exact HC0_0.out); rintro e w2 ⟨rfl, hb⟩; refine ⟨_, rfl, ?_⟩; replace BP := As.mk (blk_below (bx BP.out) hb); replace HB := As.mk (below_step (be w) hb); clear hb) | ((with_reducible refine gate_callee (f := 18) rfl ?_); refine goesL_ (some 21) rfl rfl Tryd.func18 (by kernel_rfl) rfl #[.slice A2 l2.length c2] rfl (by (try simp only [lm]); first | done | rfl | (simp only [List.length_drop, List.length_take]; rfl)) ?_; (with_reducible refine (spec_l04Nodes.calls k _ _ l2 t _ ?side1 ?side2 AT.out).mono ?_); (case side1 => exact Kd.C_below HR2.out (be w)); (case side2 => exact HC2.out); rintro e w3 ⟨v3, rfl, ho0, hb⟩; refine ⟨_, rfl, ?_⟩; have HT3 := As.mk (Kd.S_lower ho0 (below_size (be w))); have HB3 := As.mk (below_step (be w) hb); clear ho0 hb))
   go_ret2
   exact ⟨_, ez, HT3.out, HB3.out⟩
 rw [if_neg c5] at H
 obtain ⟨t, A3, H⟩ := Option.bind_eq_some_iff.mp H
 have AT := As.mk A3
 clear A3
 obtain ⟨⟨p, tt, bb⟩, hP⟩ : ∃ res, pkS_put l0_0 10 a1 t false = res := ⟨_, rfl⟩
 rw [hP] at H
 dsimp only at H
 have HRES := As.mk H
 have HP := As.mk hP
 clear H hP
 have c6b : (d == 0) = false := beq_eq_false_iff_ne.mpr (fun h => c5 (.inl h))
 have c5b : decide ((300 : Int) < (l2.length : Int)) = false := decide_eq_false (fun h => c5 (.inr (by omega)))
 clear c5
 go_enter Tryd.func6, Tryd.ntmps6
 go_wp2_with (first | ((with_reducible refine gate_dst (N := 3) rfl ?_); refine box_event ?hg (N := 3) ?hd (cs := #[.slice A0_0 l0_0.length c0_0, .slice A0_1 l0_1.length c0_1]) (t := 33) ?hr ?_; (case hd => rfl); (case hg => rfl); (case hr => first | (go_simp; done) | (go_simp; rfl)); intro bp hg w1 hbox hb; have BP := As.mk hbox; have GP := As.mk (gs w hg); replace HB := As.mk (below_step (be w) hb); clear hb hbox hg; obtain ⟨hb0, hb1, gb0, gb1⟩ := cl2 BP.out) | ((with_reducible refine gate_callee (f := 17) rfl ?_); refine goesL_ (some 13) rfl rfl Tryd.func17 (by kernel_rfl) rfl #[.slice A0_0 l0_0.length c0_0, .int .i64 a1] rfl (by (try simp only [lm]); first | done | rfl | (simp only [List.length_drop, List.length_take]; rfl)) ?_; (with_reducible refine (spec_DeepOf.calls k _ _ l0_0 a1 d _ ?side1 ?side2 AD.out).mono ?_); (case side1 => exact Kd.C_below HR0_0.out (be w)); (case side2 => exact HC0_0.out); rintro e w2 ⟨rfl, hb⟩; refine ⟨_, rfl, ?_⟩; replace BP := As.mk (blk_below (bx BP.out) hb); replace HB := As.mk (below_step (be w) hb); clear hb))
 replace BP := As.mk (blk_drew BP.out)
 replace HB := As.mk (below_drew1 HB.out)
 refine start_ (n := 7) (S := fun w' => w'.cell? ⟨bp, 0, none⟩ = some (.slice A0_0 l0_0.length c0_0)) (ds := []) #[O,O,O,O,O,O,O] (by kernel_rfl) rfl rfl ((blk_cell BP.out 0).trans rfl) (fun hHeld => ?_)
 generalize w2.drew = w3 at BP HB hHeld ⊢
 refine pure_ (i := 0) (N := some 22) (v := ?_) (a' := ?_) #[I,O,O,O,O,O,O] rfl rfl (by kernel_rfl) (fun _ _ _ h => h) (Or.inl ⟨by rfl, ?_⟩) ?_ ?_
 rotate_left; · intro w'; go_simp; with_reducible rfl
 rotate_left; · simp only [pk, i64_w, i32_w]; rfl
 refine take_ (i := 1) (N := some 23) (v := ?_) (a' := ?_) #[I,I,O,O,O,O,O] rfl rfl (by kernel_rfl) (fun _ _ _ h => h) (Or.inl ⟨by rfl, ?_⟩) hHeld ?_ ?_
 rotate_left; · rintro w' s0; go_simp; with_reducible rfl
 rotate_left; · simp only [pk, i64_w, i32_w]; rfl
 refine pure_ (i := 2) (N := some 24) (v := ?_) (a' := ?_) #[I,I,I,O,O,O,O] rfl rfl (by kernel_rfl) (fun _ _ _ h => h) (Or.inl ⟨by rfl, ?_⟩) ?_ ?_
 rotate_left; · intro w'; go_simp; with_reducible rfl
 rotate_left; · simp only [pk, i64_w, i32_w]; rfl
 refine one_ (i := 3) (N := some 25) #[I,I,I,I,O,O,O] rfl rfl (by kernel_rfl) (by decide) (fun K hK => ?_)
 refine goes_ Tryd.func18 (by kernel_rfl) rfl #[.slice A2 l2.length c2] (by rfl) rfl rfl (by (try simp only [lm]); first | done | rfl | (simp only [List.length_drop, List.length_take]; rfl)) ?_
 with_reducible refine (spec_l04Nodes.calls k _ _ l2 t _ ?side1 ?side2 AT.out).mono ?_
 (case side1 => exact Kd.C_below HR2.out (be w))
 (case side2 => exact HC2.out)
 rintro e w4 ⟨v13, rfl, ho0, hb⟩
 refine ⟨_, rfl, ?_⟩
 have HT := As.mk (Kd.S_lower (Kd.S_mono (ok' := fun k => k < w4.heap.size) (Kd.S_bound ho0) (fun k h => h.2.2.1)) (below_size (be w)))
 replace BP := As.mk (blk_below (bx BP.out) hb)
 replace HB := As.mk (below_step (be w) hb)
 clear hb ho0
 obtain ⟨At, ct, et⟩ := Kd.S_slice HT.out
 subst et
 refine hK.out _ _ ((blk_cell BP.out 0).trans rfl) (fun hHeld => ?_)
 clear hK K
 refine norm_ (a' := ?_) ?_ ?_
 rotate_left
 ·
  show Act.put _ (some 25) _ = _
  simp only [pk, i64_w, i32_w]
  rfl
 refine pure_ (i := 4) (N := some 26) (v := ?_) (a' := ?_) #[I,I,I,I,I,O,O] rfl rfl (by kernel_rfl) (fun _ _ _ h => h) (Or.inl ⟨by rfl, ?_⟩) ?_ ?_
 rotate_left; · intro w'; go_simp; with_reducible rfl
 rotate_left; · simp only [pk, i64_w, i32_w]; rfl
 refine one_ (i := 5) (N := some 27) #[I,I,I,I,I,I,O] rfl rfl (by kernel_rfl) (by decide) (fun K hK => ?_)
 refine box_step ?hg (N := 27) ?hd (cs := #[.slice A0_0 l0_0.length c0_0, .slice At t.length ct, .bool false]) (t := 49) ?hr ?_; (case hd => rfl); (case hg => rfl); (case hr => first | (go_simp; done) | (go_simp; rfl))
 intro g hg w5 hbox hb
 have HX5 := As.mk hbox
 have HG := As.mk (gs w hg)
 have HT5 := As.mk (Kd.S_mono (ok' := fun k => k ≠ g) (Kd.S_below HT.out hb) (fun k h e => by rw [e, hg] at h; exact Nat.lt_irrefl _ h))
 replace BP := As.mk (blk_below BP.out hb)
 have HB5 := As.mk (below_step HB.out hb)
 clear hb hbox hg hHeld HT HB
 refine hK.out _ _ ((blk_cell BP.out 0).trans rfl) (fun hHeld => ?_)
 clear hK K
 refine norm_ (a' := ?_) ?_ ?_
 rotate_left
 ·
  show Act.put _ (some 27) _ = _
  simp only [pk, i64_w, i32_w]
  rfl
 refine pure_ (i := 6) (N := some 8) (v := ?_) (a' := ?_) #[I,I,I,I,I,I,I] rfl rfl (by kernel_rfl) (fun _ _ _ h => h) (Or.inl ⟨by rfl, ?_⟩) ?_ ?_
 rotate_left; · intro w'; go_simp; with_reducible rfl
 rotate_left; · simp only [pk, i64_w, i32_w]; rfl
 refine done_ (by kernel_rfl) ?_
 go_upto_region 5 with (first | ((with_reducible refine gate_callee (f := 19) rfl ?_); refine goesL_ (some 30) rfl rfl Tryd.func19 (by kernel_rfl) rfl #[.pointer (some ⟨g, 0, none⟩), .int .i64 a1, .int .i64 1] rfl (by (try simp only [lm]); first | done | rfl | (simp only [List.length_drop, List.length_take]; rfl)) ?_; (refine (pkS_put.one (fun k => k ≠ g) g (.slice At t.length ct) A0_0 c0_0 l0_0 t false a1 w _ HB5.out HG.out HR0_0.out HX5.out HT5.out (fun h => h rfl) p tt bb HP.out).mono ?_); rintro e w7 ⟨tv7, rfl, hx7, hT7, hB7, hK7⟩; refine ⟨_, rfl, ?_⟩; have HX7 := As.mk hx7; have HT7 := As.mk (Kd.S_mono (ok' := fun _ => True) hT7 (fun _ _ => trivial)); have HB7 := As.mk hB7; clear hx7 hT7 hB7 hK7 HX5 HT5 HB5))
 obtain ⟨A7, c7, e7⟩ := Kd.S_slice HT7.out
 subst e7
 have hlt : tt.length ≤ 9223372036854775807 := Kd.F_max (Kd.S_F HT7.out)
 obtain ⟨hc0, hc1, hc2, hf0, hf1, hf2⟩ := cl3x HX7.out
 have H := HRES.out
 cases bb with
 | true =>
  rw [if_pos (.inl rfl)] at H
  simp only [Option.some.injEq, Prod.mk.injEq] at H
  obtain ⟨rfl, rfl⟩ := H
  go_wp2_with (first | ((with_reducible refine gate_callee (f := 18) rfl ?_); refine goesL_ (some 44) rfl rfl Tryd.func18 (by kernel_rfl) rfl #[.slice A2 l2.length c2] rfl (by (try simp only [lm]); first | done | rfl | (simp only [List.length_drop, List.length_take]; rfl)) ?_; (with_reducible refine (spec_l04Nodes.calls k _ _ l2 t _ ?side1 ?side2 AT.out).mono ?_); (case side1 => exact Kd.C_below HR2.out HB7.out); (case side2 => exact HC2.out); rintro e w8 ⟨v8, rfl, ho0, hb⟩; refine ⟨_, rfl, ?_⟩; have HT8 := As.mk (Kd.S_lower ho0 (below_size HB7.out)); have HB8 := As.mk (below_step HB7.out hb); clear ho0 hb))
  go_ret2
  exact ⟨_, ez, HT8.out, HB8.out⟩
 | false =>
  by_cases c9 : 300 < tt.length
  ·
   rw [if_pos (.inr c9)] at H
   simp only [Option.some.injEq, Prod.mk.injEq] at H
   obtain ⟨rfl, rfl⟩ := H
   have c9b : decide ((300 : Int) < (tt.length : Int)) = true := decide_eq_true (by omega)
   go_wp2_with (first | ((with_reducible refine gate_callee (f := 18) rfl ?_); refine goesL_ (some 44) rfl rfl Tryd.func18 (by kernel_rfl) rfl #[.slice A2 l2.length c2] rfl (by (try simp only [lm]); first | done | rfl | (simp only [List.length_drop, List.length_take]; rfl)) ?_; (with_reducible refine (spec_l04Nodes.calls k _ _ l2 t _ ?side1 ?side2 AT.out).mono ?_); (case side1 => exact Kd.C_below HR2.out HB7.out); (case side2 => exact HC2.out); rintro e w8 ⟨v8, rfl, ho0, hb⟩; refine ⟨_, rfl, ?_⟩; have HT8 := As.mk (Kd.S_lower ho0 (below_size HB7.out)); have HB8 := As.mk (below_step HB7.out hb); clear ho0 hb))
   go_ret2
   exact ⟨_, ez, HT8.out, HB8.out⟩
  rw [if_neg (by rintro (h | h); · cases h
                 · exact c9 h)] at H
  simp only [Option.some.injEq, Prod.mk.injEq] at H
  obtain ⟨rfl, rfl⟩ := H
  have c9b : decide ((300 : Int) < (tt.length : Int)) = false := decide_eq_false (by omega)
  go_wp2_with (fail)
  go_ret2
  exact ⟨_, ez, HT7.out, HB7.out⟩

end Go.Proofs.YtnepkmbknoanjaaDoor.PFnExactCopyNodes
