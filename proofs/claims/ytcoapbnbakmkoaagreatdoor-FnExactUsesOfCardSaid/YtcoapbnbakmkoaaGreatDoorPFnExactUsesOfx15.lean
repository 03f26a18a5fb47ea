/- Written by a program of this session (a turned copy of the kit's print): a contract for each Go function. No condition beside those in each statement. -/
import Derived.Test.YtcoapbnbakmkoaaGreatDoorPFnExactUsesOfx0
import Derived.Test.YtcoapbnbakmkoaaGreatDoorPFnExactUsesOfx14
import Derived.Test.YtcoapbnbakmkoaaGreatDoorPFnExactUsesOfx1
import Derived.Test.YtcoapbnbakmkoaaGreatDoorPFnExactUsesOfx2
import Derived.Test.YtcoapbnbakmkoaaGreatDoorPFnExactUsesOfx3
import Derived.Test.YtcoapbnbakmkoaaGreatDoorPFnExactUsesOfx10
import Derived.Test.YtcoapbnbakmkoaaGreatDoorPFnExactUsesOfx13
namespace Go.Proofs.YtcoapbnbakmkoaaGreatDoor.PFnExactUsesOf
open Go.RowKit Go.Proofs.YtcoapbnbakmkoaaGreatDoor.Given Go.Proofs.YtcoapbnbakmkoaaGreatDoorW.PrintWords Go.Proofs.YtcoapbnbakmkoaaGreatDoorW.PrintLast Go.Proofs.YtcoapbnbakmkoaaGreatDoorW.PrintMore
attribute [local go_sem] max2_int min2_int max_two min_two max_three min_three max_four min_four   -- for this text's walks alone
set_option linter.unusedVariables false
set_option linter.unusedSimpArgs false

/-! ### impl_UsesOf: function 30 -/
def impl_UsesOf.l0 : Nat → ByteArray → List Int → List Int → Int → Int → List (S62) → List (S56) → Option (List Int)
 | 0, _, _, _, _, _, _, _ => none
 | k + 1, x2, x7, x13, x14, x15, x414000, x414001 => if x15 < x14 then (if 0 ≤ x15 then (if x15 < (x13.length : Int) then (if 0 ≤ (rd x13 x15) then (if (rd x13 x15) < (x414000.length : Int) then ((impl_uses.f ((rd_T62 x414000 (rd x13 x15)).f0)).bind fun t420 => (if t420 = true then (if ((rd_T62 x414000 (rd x13 x15)).f2).toList = x2.toList then (if x7.length < 17592186044416 then (impl_UsesOf.l0 k x2 (x7 ++ [rd x13 x15]) x13 x14 (wrap64 (x15 + 1)) x414000 x414001) else (none)) else (impl_UsesOf.l0 k x2 x7 x13 x14 (wrap64 (x15 + 1)) x414000 x414001)) else (impl_UsesOf.l0 k x2 x7 x13 x14 (wrap64 (x15 + 1)) x414000 x414001))) else (none)) else (none)) else (none)) else (none)) else (some x7)
def impl_UsesOf.f (k : Nat) (l0_0 : List (S62)) (l0_1 : List (S56)) (a1 : Int) (a2 : ByteArray) : Option (List Int) := (impl_fnNodes.f k l0_0 l0_1 a1).bind fun t414 => (impl_UsesOf.l0 k a2 ([] : List Int) t414 (t414.length : Int) 0 l0_0 l0_1)
theorem impl_UsesOf.mono_l : ∀ k, (∀ y0 y1 y2 y3 y4 y5 y6, LeO (impl_UsesOf.l0 k y0 y1 y2 y3 y4 y5 y6) (impl_UsesOf.l0 (k + 1) y0 y1 y2 y3 y4 y5 y6))
 | 0 => fun _ _ _ _ _ _ _ r h => by simp [impl_UsesOf.l0] at h
 | k + 1 => by
  have ih0 := impl_UsesOf.mono_l k
  ·
   intro y0 y1 y2 y3 y4 y5 y6
   unfold impl_UsesOf.l0
   with_reducible repeat' first | exact ih0 _ _ _ _ _ _ _ | exact impl_fnNodes.mono _ _ _ _ | exact LeO.refl _ | exact LeO.none _ | refine LeO.ite ?_ ?_ | refine LeO.bind ?_ (fun _ => ?_)
theorem impl_UsesOf.mono : ∀ a0 a1 a2 a3 k, LeO (impl_UsesOf.f k a0 a1 a2 a3) (impl_UsesOf.f (k + 1) a0 a1 a2 a3) := by
 intro a0 a1 a2 a3 k
 have ih0 := impl_UsesOf.mono_l k
 unfold impl_UsesOf.f
 with_reducible repeat' first | exact ih0 _ _ _ _ _ _ _ | exact impl_fnNodes.mono _ _ _ _ | exact LeO.refl _ | exact LeO.none _ | refine LeO.ite ?_ ?_ | refine LeO.bind ?_ (fun _ => ?_)
set_option maxHeartbeats 8000000 in
set_option maxRecDepth 100000 in
theorem impl_UsesOf.calls (k : Nat) (A0_0 : Option Addr) (c0_0 : Nat) (l0_0 : List (S62)) (A0_1 : Option Addr) (c0_1 : Nat) (l0_1 : List (S56)) (a1 : Int) (a2 : ByteArray) (r : List Int) (w : World) (hr0_0 : Kd.C k62 w A0_0 l0_0.length l0_0) (hc0_0 : l0_0.length ≤ c0_0) (hr0_1 : Kd.C k56 w A0_1 l0_1.length l0_1) (hc0_1 : l0_1.length ≤ c0_1) (h : impl_UsesOf.f k l0_0 l0_1 a1 a2 = some r) :
  Calls Tryz.prog 30 #[.agg #[.slice A0_0 l0_0.length c0_0, .slice A0_1 l0_1.length c0_1], .int .i64 a1, .string a2] w fun e w' => ∃ v0_ : Value, e = .returned (v0_) ∧ Kd.R (Kd.int .i64) 3 w' w.heap.size (fun _ => True) v0_ r ∧ Below w.heap.size w w' := by
 have hu32 := Tryz.underlying32
 have hu62 := Tryz.underlying62
 have HR0_0 := As.mk hr0_0
 have HC0_0 := As.mk hc0_0
 clear hr0_0 hc0_0
 have HR0_1 := As.mk hr0_1
 have HC0_1 := As.mk hc0_1
 clear hr0_1 hc0_1
 have HB := As.mk (Below.refl w.heap.size w)
 have H : ((impl_fnNodes.f k l0_0 l0_1 a1).bind fun t414 => (impl_UsesOf.l0 k a2 ([] : List Int) t414 (t414.length : Int) 0 l0_0 l0_1)) = some r := h
 clear h
 obtain ⟨t414, A40, H⟩ := Option.bind_eq_some_iff.mp H
 try dsimp only at H
 have A4 := As.mk A40
 clear A40
 have H' := As.mk H
 clear H
 go_enter Tryz.func30, Tryz.ntmps30
 go_wp2_with (first | ((with_reducible refine gate_dst (N := 3) rfl ?_); refine box_event ?hg (N := 3) ?hd (cs := #[.slice A0_0 l0_0.length c0_0, .slice A0_1 l0_1.length c0_1]) (t := 32) ?hr ?_; (case hd => rfl); (case hg => rfl); (case hr => first | (go_simp; done) | (go_simp; rfl)); intro gb413 hg w5 hbox hb; have BK413 := As.mk (hbox); have GW413 := As.mk (gs w hg); have GE413 := As.mk (gs w hg); replace HB := As.mk (below_step (be w) hb); clear hb hbox hg; obtain ⟨hcz6_0, hcz6_1, hfz6_0, hfz6_1⟩ := cl2 BK413.out) | ((with_reducible refine gate_callee (f := 62) rfl ?_); refine goesL_ (some 13) rfl rfl Tryz.func62 (by kernel_rfl) rfl #[.agg #[.slice A0_0 l0_0.length c0_0, .slice A0_1 l0_1.length c0_1], .int .i64 a1] rfl (by (try simp only [lm]); first | done | rfl | (simp only [List.length_drop, List.length_take]; rfl)) ?_; (with_reducible refine (impl_fnNodes.calls k _ _ l0_0 _ _ l0_1 a1 t414 _ ?side1 ?side2 ?side3 ?side4 A4.out).mono ?_); (case side1 => exact Kd.C_below HR0_0.out (be w)); (case side2 => exact HC0_0.out); (case side3 => exact Kd.C_below HR0_1.out (be w)); (case side4 => exact HC0_1.out); rintro e w7 ⟨v415, rfl, ho0, hb⟩; refine ⟨_, rfl, ?_⟩; have HO416 := As.mk (Kd.R_lower ho0 (below_size (be w))); replace BK413 := As.mk (blk_below (bx BK413.out) hb); replace HB := As.mk (below_step (be w) hb); (try clear hb); (try clear hb2); (try clear hk); (try clear hi); (try clear ho0); obtain ⟨Ao8, co8, eo8⟩ := Kd.R_slice HO416.out; subst eo8))
 (try simp only [pk])
 go_loopg [7, 15] k (fun kq v7 v15 w' => ∃ (x7_1 : List Int) (x15_1 : Int), v15 = .int .i64 x15_1 ∧ As (impl_UsesOf.l0 kq a2 x7_1 t414 (t414.length : Int) x15_1 l0_0 l0_1 = some r) ∧ As (kq ≤ k) ∧ As (Kd.R (Kd.int .i64) 3 w' w.heap.size (fun k_ => some k_ ≠ ((.slice Ao8 t414.length co8) : Value).ownBlock) v7 x7_1) ∧ As (Kd.R (Kd.int .i64) 3 w' w.heap.size (fun k_ => some k_ ≠ (v7 : Value).ownBlock) (.slice Ao8 t414.length co8) t414) ∧ As (w'.heap[gb413]? = some (.cells #[(.slice A0_0 l0_0.length c0_0), (.slice A0_1 l0_1.length c0_1)] 32 (0, 0))) ∧ As (Below w.heap.size w w'))
 case atStart => exact ⟨(([] : List Int)), (0), (by first | rfl | (simp; done) | (simp [*]; done)), H', ⟨Nat.le_refl _⟩, ⟨by first | exact Kd.R_nil _ _ _ _ _ | exact Kd.N_nil _ _ _ _ _ | exact Kd.V_nil _ _ _ _ _ | exact Kd.Q_nil _ _ _ _ _ | exact Kd.S_nil _ _ _ _ _⟩, ⟨by (with_reducible repeat (first | apply Kd.R_alloc | apply Kd.R_drewN | apply Kd.R_drew)); exact Kd.R_mono HO416.out (fun _ hk => (by simp [Value.ownBlock]))⟩, ⟨bx BK413.out⟩, ⟨be w⟩⟩
 case round =>
  clear H'
  (try clear hcz6_0); (try clear hcz6_1); (try clear hfz6_0); (try clear hfz6_1)
  obtain ⟨x7_1, x15_1, rfl, HA, HK1, HO_7, HO_13, BK413, HB⟩ := hrel
  cases gk with
  | zero => exact absurd HA.out (by simp [impl_UsesOf.l0])
  | succ k1 =>
   have H := HA.out
   clear HA
   simp only [impl_UsesOf.l0] at H
   by_cases c9 : x15_1 < (t414.length : Int)
   rotate_left
   ·
    rw [if_neg c9] at H
    have c9b0 : decide (x15_1 < (t414.length : Int)) = false := decide_eq_false c9
    clear c9
    obtain rfl := Option.some.inj H
    go_wp2
    go_ret
    exact ⟨_, ez, by (with_reducible repeat (first | apply Kd.R_alloc | apply Kd.R_drewN | apply Kd.R_drew)); exact Kd.R_mono HO_7.out (fun _ hk => trivial), be w⟩

   rw [if_pos c9] at H
   have c9b0 : decide (x15_1 < (t414.length : Int)) = true := decide_eq_true c9
   clear c9
   by_cases c10 : 0 ≤ x15_1
   rotate_left; · rw [if_neg c10] at H; exact absurd H (by simp)
   rw [if_pos c10] at H
   have c10b0 : decide (0 ≤ x15_1) = true := decide_eq_true c10
   clear c10
   by_cases c11 : x15_1 < (t414.length : Int)
   rotate_left; · rw [if_neg c11] at H; exact absurd H (by simp)
   rw [if_pos c11] at H
   have c11b0 : decide (x15_1 < (t414.length : Int)) = true := decide_eq_true c11
   clear c11
   by_cases c12 : 0 ≤ (rd t414 x15_1)
   rotate_left; · rw [if_neg c12] at H; exact absurd H (by simp)
   rw [if_pos c12] at H
   have c12b0 : decide (0 ≤ (rd t414 x15_1)) = true := decide_eq_true c12
   clear c12
   by_cases c13 : (rd t414 x15_1) < (l0_0.length : Int)
   rotate_left; · rw [if_neg c13] at H; exact absurd H (by simp)
   rw [if_pos c13] at H
   have c13b0 : decide ((rd t414 x15_1) < (l0_0.length : Int)) = true := decide_eq_true c13
   clear c13
   obtain ⟨t420, A140, H⟩ := Option.bind_eq_some_iff.mp H
   try dsimp only at H
   have A14 := As.mk A140
   clear A140
   by_cases c15 : t420 = true
   rotate_left
   ·
    replace c15 := Bool.eq_false_iff.mpr c15
    subst c15
    rw [if_neg (show ¬ (false = true) by decide)] at H
    have H' := As.mk H
    clear H
    have p417 : 0 ≤ (x15_1 : Int) := od
    have q417 : x15_1 < (t414.length : Int) := od
    obtain ⟨ad417, e417, hx417_0⟩ := Kd.at_int (Kd.R_reads' HO_13.out).2.2 x15_1 p417 q417
    cases e417
    replace p417 := eq_true p417
    replace q417 := eq_true q417
    obtain ⟨hcz27_0, hcz27_1, hfz27_0, hfz27_1⟩ := cl2 BK413.out
    have p418 : 0 ≤ ((rd t414 x15_1) : Int) := od
    have q418 : (rd t414 x15_1) < (l0_0.length : Int) := od
    obtain ⟨ad418, A418_3, c418_3, e418, hx418_0, hx418_1, hx418_2, hx418_3, hl418_3, hi418_3⟩ := at_T62 HR0_0.out (rd t414 x15_1) p418 q418
    cases e418
    replace hx418_0 := ce HB.out hx418_0
    replace hx418_1 := ce HB.out hx418_1
    replace hx418_2 := ce HB.out hx418_2
    replace hx418_3 := ce HB.out hx418_3
    have HR418_3 := As.mk hi418_3
    have HC418_3 := As.mk hl418_3
    clear hi418_3 hl418_3
    replace p418 := eq_true p418
    replace q418 := eq_true q418
    go_wp2_with (first | ((with_reducible refine gate_dst (N := 10) rfl ?_); refine box_event ?hg (N := 10) ?hd (cs := #[.int .i64 0, .int .i64 0, .string (⟨#[]⟩ : ByteArray), .slice none 0 0]) (t := 62) ?hr ?_; (case hd => rfl); (case hg => rfl); (case hr => first | (go_simp; done) | (go_simp; rfl)); intro gb419 hg w28 hbox hb; replace HO_7 := As.mk (Kd.R_below (by (with_reducible repeat (first | apply Kd.R_alloc | apply Kd.R_drewN | apply Kd.R_drew)); exact HO_7.out) hb); replace HO_13 := As.mk (Kd.R_below (by (with_reducible repeat (first | apply Kd.R_alloc | apply Kd.R_drewN | apply Kd.R_drew)); exact HO_13.out) hb); have BK419 := As.mk (hbox); have GW419 := As.mk (gs w hg); have GE419 := As.mk (gs w hg); replace HB := As.mk (below_step (be w) hb); have NB413_419 := As.mk (nl hg (bx BK413.out)); have NB419_413 := As.mk (ng hg (bx BK413.out)); replace BK413 := As.mk (blk_below (bx BK413.out) hb); clear hb hbox hg; have hnb29 := NB419_413.out; have hnc29 := NB413_419.out; obtain ⟨hcz30_0, hcz30_1, hcz30_2, hcz30_3, hfz30_0, hfz30_1, hfz30_2, hfz30_3⟩ := cl4 BK419.out) | ((with_reducible refine gate_callee (f := 63) rfl ?_); refine goesL_ (some 26) rfl rfl Tryz.func63 (by kernel_rfl) rfl #[.int .i64 ((rd_T62 l0_0 (rd t414 x15_1)).f0)] rfl (by (try simp only [lm]); first | done | rfl | (simp only [List.length_drop, List.length_take]; rfl)) ?_; (with_reducible refine (impl_uses.calls ((rd_T62 l0_0 (rd t414 x15_1)).f0) false _ A14.out).mono ?_); rintro e w' ⟨rfl, ⟨nd, rfl⟩⟩; refine ⟨_, rfl, ?_⟩))
    go_roundg k1
    case measure => have := HK1.out; omega
    case rel => exact ⟨(x7_1), (wrap64 (x15_1 + 1)), (by first | rfl | (simp; done) | (simp [*]; done)), H', ⟨by have := HK1.out; omega⟩, ⟨by (with_reducible repeat (first | apply Kd.R_alloc | apply Kd.R_drewN | apply Kd.R_drew)); exact Kd.R_mono (Kd.R_far (p := ⟨gb419, 3, none⟩) (Kd.R_far (p := ⟨gb419, 2, none⟩) (Kd.R_far (p := ⟨gb419, 1, none⟩) (Kd.R_far (p := ⟨gb419, 0, none⟩) (Kd.R_types HO_7.out BK419.out (by decide)) (fun _ hk => hk.2) (.int .i64 ((rd_T62 l0_0 (rd t414 x15_1)).f0))) (fun _ hk => hk.2) (.int .i64 ((rd_T62 l0_0 (rd t414 x15_1)).f1))) (fun _ hk => hk.2) (.string ((rd_T62 l0_0 (rd t414 x15_1)).f2))) (fun _ hk => hk.2) (.slice A418_3 ((rd_T62 l0_0 (rd t414 x15_1)).f3).length c418_3)) (fun _ hk => hk.1)⟩, ⟨by (with_reducible repeat (first | apply Kd.R_alloc | apply Kd.R_drewN | apply Kd.R_drew)); exact Kd.R_mono (Kd.R_far (p := ⟨gb419, 3, none⟩) (Kd.R_far (p := ⟨gb419, 2, none⟩) (Kd.R_far (p := ⟨gb419, 1, none⟩) (Kd.R_far (p := ⟨gb419, 0, none⟩) (Kd.R_types HO_13.out BK419.out (by decide)) (fun _ hk => hk.2) (.int .i64 ((rd_T62 l0_0 (rd t414 x15_1)).f0))) (fun _ hk => hk.2) (.int .i64 ((rd_T62 l0_0 (rd t414 x15_1)).f1))) (fun _ hk => hk.2) (.string ((rd_T62 l0_0 (rd t414 x15_1)).f2))) (fun _ hk => hk.2) (.slice A418_3 ((rd_T62 l0_0 (rd t414 x15_1)).f3).length c418_3)) (fun _ hk => hk.1)⟩, ⟨by refine pl ?_; refine blk_far ?_ NB413_419.out _; refine pl ?_; refine blk_far ?_ NB413_419.out _; refine pl ?_; refine blk_far ?_ NB413_419.out _; refine pl ?_; refine blk_far ?_ NB413_419.out _; exact bx BK413.out⟩, ⟨be w⟩⟩
   subst c15
   rw [if_pos rfl] at H
   by_cases c16 : ((rd_T62 l0_0 (rd t414 x15_1)).f2).toList = a2.toList
   rotate_left
   ·
    rw [if_neg c16] at H
    have c16b0 : (((rd_T62 l0_0 (rd t414 x15_1)).f2).toList == a2.toList) = false := beq_eq_false_iff_ne.mpr c16
    have c16b1 : (((rd_T62 l0_0 (rd t414 x15_1)).f2).toList != a2.toList) = true := bne_iff_ne.mpr c16
    have H' := As.mk H
    clear H
    have p417 : 0 ≤ (x15_1 : Int) := od
    have q417 : x15_1 < (t414.length : Int) := od
    obtain ⟨ad417, e417, hx417_0⟩ := Kd.at_int (Kd.R_reads' HO_13.out).2.2 x15_1 p417 q417
    cases e417
    replace p417 := eq_true p417
    replace q417 := eq_true q417
    obtain ⟨hcz23_0, hcz23_1, hfz23_0, hfz23_1⟩ := cl2 BK413.out
    have p418 : 0 ≤ ((rd t414 x15_1) : Int) := od
    have q418 : (rd t414 x15_1) < (l0_0.length : Int) := od
    obtain ⟨ad418, A418_3, c418_3, e418, hx418_0, hx418_1, hx418_2, hx418_3, hl418_3, hi418_3⟩ := at_T62 HR0_0.out (rd t414 x15_1) p418 q418
    cases e418
    replace hx418_0 := ce HB.out hx418_0
    replace hx418_1 := ce HB.out hx418_1
    replace hx418_2 := ce HB.out hx418_2
    replace hx418_3 := ce HB.out hx418_3
    have HR418_3 := As.mk hi418_3
    have HC418_3 := As.mk hl418_3
    clear hi418_3 hl418_3
    replace p418 := eq_true p418
    replace q418 := eq_true q418
    go_wp2_with (first | ((with_reducible refine gate_dst (N := 10) rfl ?_); refine box_event ?hg (N := 10) ?hd (cs := #[.int .i64 0, .int .i64 0, .string (⟨#[]⟩ : ByteArray), .slice none 0 0]) (t := 62) ?hr ?_; (case hd => rfl); (case hg => rfl); (case hr => first | (go_simp; done) | (go_simp; rfl)); intro gb419 hg w24 hbox hb; replace HO_7 := As.mk (Kd.R_below (by (with_reducible repeat (first | apply Kd.R_alloc | apply Kd.R_drewN | apply Kd.R_drew)); exact HO_7.out) hb); replace HO_13 := As.mk (Kd.R_below (by (with_reducible repeat (first | apply Kd.R_alloc | apply Kd.R_drewN | apply Kd.R_drew)); exact HO_13.out) hb); have BK419 := As.mk (hbox); have GW419 := As.mk (gs w hg); have GE419 := As.mk (gs w hg); replace HB := As.mk (below_step (be w) hb); have NB413_419 := As.mk (nl hg (bx BK413.out)); have NB419_413 := As.mk (ng hg (bx BK413.out)); replace BK413 := As.mk (blk_below (bx BK413.out) hb); clear hb hbox hg; have hnb25 := NB419_413.out; have hnc25 := NB413_419.out; obtain ⟨hcz26_0, hcz26_1, hcz26_2, hcz26_3, hfz26_0, hfz26_1, hfz26_2, hfz26_3⟩ := cl4 BK419.out) | ((with_reducible refine gate_callee (f := 63) rfl ?_); refine goesL_ (some 26) rfl rfl Tryz.func63 (by kernel_rfl) rfl #[.int .i64 ((rd_T62 l0_0 (rd t414 x15_1)).f0)] rfl (by (try simp only [lm]); first | done | rfl | (simp only [List.length_drop, List.length_take]; rfl)) ?_; (with_reducible refine (impl_uses.calls ((rd_T62 l0_0 (rd t414 x15_1)).f0) true _ A14.out).mono ?_); rintro e w' ⟨rfl, ⟨nd, rfl⟩⟩; refine ⟨_, rfl, ?_⟩))
    go_roundg k1
    case measure => have := HK1.out; omega
    case rel => exact ⟨(x7_1), (wrap64 (x15_1 + 1)), (by first | rfl | (simp; done) | (simp [*]; done)), H', ⟨by have := HK1.out; omega⟩, ⟨by (with_reducible repeat (first | apply Kd.R_alloc | apply Kd.R_drewN | apply Kd.R_drew)); exact Kd.R_mono (Kd.R_far (p := ⟨gb419, 3, none⟩) (Kd.R_far (p := ⟨gb419, 2, none⟩) (Kd.R_far (p := ⟨gb419, 1, none⟩) (Kd.R_far (p := ⟨gb419, 0, none⟩) (Kd.R_types HO_7.out BK419.out (by decide)) (fun _ hk => hk.2) (.int .i64 ((rd_T62 l0_0 (rd t414 x15_1)).f0))) (fun _ hk => hk.2) (.int .i64 ((rd_T62 l0_0 (rd t414 x15_1)).f1))) (fun _ hk => hk.2) (.string ((rd_T62 l0_0 (rd t414 x15_1)).f2))) (fun _ hk => hk.2) (.slice A418_3 ((rd_T62 l0_0 (rd t414 x15_1)).f3).length c418_3)) (fun _ hk => hk.1)⟩, ⟨by (with_reducible repeat (first | apply Kd.R_alloc | apply Kd.R_drewN | apply Kd.R_drew)); exact Kd.R_mono (Kd.R_far (p := ⟨gb419, 3, none⟩) (Kd.R_far (p := ⟨gb419, 2, none⟩) (Kd.R_far (p := ⟨gb419, 1, none⟩) (Kd.R_far (p := ⟨gb419, 0, none⟩) (Kd.R_types HO_13.out BK419.out (by decide)) (fun _ hk => hk.2) (.int .i64 ((rd_T62 l0_0 (rd t414 x15_1)).f0))) (fun _ hk => hk.2) (.int .i64 ((rd_T62 l0_0 (rd t414 x15_1)).f1))) (fun _ hk => hk.2) (.string ((rd_T62 l0_0 (rd t414 x15_1)).f2))) (fun _ hk => hk.2) (.slice A418_3 ((rd_T62 l0_0 (rd t414 x15_1)).f3).length c418_3)) (fun _ hk => hk.1)⟩, ⟨by refine pl ?_; refine blk_far ?_ NB413_419.out _; refine pl ?_; refine blk_far ?_ NB413_419.out _; refine pl ?_; refine blk_far ?_ NB413_419.out _; refine pl ?_; refine blk_far ?_ NB413_419.out _; exact bx BK413.out⟩, ⟨be w⟩⟩
   rw [if_pos c16] at H
   have c16b0 : (((rd_T62 l0_0 (rd t414 x15_1)).f2).toList == a2.toList) = true := beq_iff_eq.mpr c16
   have c16b1 : (((rd_T62 l0_0 (rd t414 x15_1)).f2).toList != a2.toList) = false := bne_eq_false_iff_eq.mpr c16
   clear c16
   by_cases c17 : x7_1.length < 17592186044416
   rotate_left; · rw [if_neg c17] at H; exact absurd H (by simp)
   rw [if_pos c17] at H
   have LMc17 := As.mk c17
   clear c17
   obtain ⟨y421, hy421⟩ : ∃ y_ : List Int, y_ = (x7_1 ++ [rd t414 x15_1]) := ⟨_, rfl⟩
   replace H : (impl_UsesOf.l0 k1 a2 y421 t414 (t414.length : Int) (wrap64 (x15_1 + 1)) l0_0 l0_1) = some r := by first | (rw [hy421]; with_reducible exact H) | (have H2_ := (Option.bind_some _ _).symm.trans H; rw [hy421]; with_reducible exact H2_) | (have H2_ := (Option.bind_some _ _).symm.trans H; with_reducible exact H2_) | with_reducible exact H | (rw [hy421]; exact H) | exact H
   have Ny421 := As.mk hy421
   clear hy421
   have H' := As.mk H
   clear H
   have p417 : 0 ≤ (x15_1 : Int) := od
   have q417 : x15_1 < (t414.length : Int) := od
   obtain ⟨ad417, e417, hx417_0⟩ := Kd.at_int (Kd.R_reads' HO_13.out).2.2 x15_1 p417 q417
   cases e417
   replace p417 := eq_true p417
   replace q417 := eq_true q417
   obtain ⟨hcz18_0, hcz18_1, hfz18_0, hfz18_1⟩ := cl2 BK413.out
   have p418 : 0 ≤ ((rd t414 x15_1) : Int) := od
   have q418 : (rd t414 x15_1) < (l0_0.length : Int) := od
   obtain ⟨ad418, A418_3, c418_3, e418, hx418_0, hx418_1, hx418_2, hx418_3, hl418_3, hi418_3⟩ := at_T62 HR0_0.out (rd t414 x15_1) p418 q418
   cases e418
   replace hx418_0 := ce HB.out hx418_0
   replace hx418_1 := ce HB.out hx418_1
   replace hx418_2 := ce HB.out hx418_2
   replace hx418_3 := ce HB.out hx418_3
   have HR418_3 := As.mk hi418_3
   have HC418_3 := As.mk hl418_3
   clear hi418_3 hl418_3
   replace p418 := eq_true p418
   replace q418 := eq_true q418
   go_wp2_with (first | ((with_reducible refine gate_dst (N := 10) rfl ?_); refine box_event ?hg (N := 10) ?hd (cs := #[.int .i64 0, .int .i64 0, .string (⟨#[]⟩ : ByteArray), .slice none 0 0]) (t := 62) ?hr ?_; (case hd => rfl); (case hg => rfl); (case hr => first | (go_simp; done) | (go_simp; rfl)); intro gb419 hg w19 hbox hb; replace HO_7 := As.mk (Kd.R_below (by (with_reducible repeat (first | apply Kd.R_alloc | apply Kd.R_drewN | apply Kd.R_drew)); exact HO_7.out) hb); replace HO_13 := As.mk (Kd.R_below (by (with_reducible repeat (first | apply Kd.R_alloc | apply Kd.R_drewN | apply Kd.R_drew)); exact HO_13.out) hb); have BK419 := As.mk (hbox); have GW419 := As.mk (gs w hg); have GE419 := As.mk (gs w hg); replace HB := As.mk (below_step (be w) hb); have NB413_419 := As.mk (nl hg (bx BK413.out)); have NB419_413 := As.mk (ng hg (bx BK413.out)); replace BK413 := As.mk (blk_below (bx BK413.out) hb); clear hb hbox hg; have hnb20 := NB419_413.out; have hnc20 := NB413_419.out; obtain ⟨hcz21_0, hcz21_1, hcz21_2, hcz21_3, hfz21_0, hfz21_1, hfz21_2, hfz21_3⟩ := cl4 BK419.out) | ((with_reducible refine gate_callee (f := 63) rfl ?_); refine goesL_ (some 26) rfl rfl Tryz.func63 (by kernel_rfl) rfl #[.int .i64 ((rd_T62 l0_0 (rd t414 x15_1)).f0)] rfl (by (try simp only [lm]); first | done | rfl | (simp only [List.length_drop, List.length_take]; rfl)) ?_; (with_reducible refine (impl_uses.calls ((rd_T62 l0_0 (rd t414 x15_1)).f0) true _ A14.out).mono ?_); rintro e w' ⟨rfl, ⟨nd, rfl⟩⟩; refine ⟨_, rfl, ?_⟩) | ((with_reducible refine gate_builtin (b := .append) (xs := #[.tmp 33, .tmp 35]) rfl ?_); at_builtin; refine Kd.R_append (Kd.int .i64) (w0 := w) w.heap.size rfl (.tmp 33) (.tmp 35) 45 3 (.int .i64 0) 8 rfl Tryz.underlying45 info3 rfl (by decide) (by omega) u7 x7_1 (rd t414 x15_1) [.int .i64 (rd t414 x15_1)] (fun k_ => some k_ ≠ (.slice (some ad417) t414.length co8 : Value).ownBlock) (fun _ => False) rfl (by first | (go_simp; done) | (go_simp; rfl)) ?aP (fun _ hk => hk.elim) ?aF ?aO ?aB ?aS ?aL ?_; (case aP => exact rfl); (case aB => exact (be w)); (case aF => exact (fun k_ hk => Kd.fresh' (Kd.R_lt (by (with_reducible repeat (first | apply Kd.R_alloc | apply Kd.R_drewN | apply Kd.R_drew)); (have z_ := R_far4 HO_13.out BK419.out (by decide)); with_reducible exact z_ _ _ _ _)) k_ hk)); (case aO => exact (by (with_reducible repeat (first | apply Kd.R_alloc | apply Kd.R_drewN | apply Kd.R_drew)); exact Kd.R_mono (Kd.R_far (p := ⟨gb419, 3, none⟩) (Kd.R_far (p := ⟨gb419, 2, none⟩) (Kd.R_far (p := ⟨gb419, 1, none⟩) (Kd.R_far (p := ⟨gb419, 0, none⟩) (Kd.R_types HO_7.out BK419.out (by decide)) (fun _ hk => hk.2) (.int .i64 ((rd_T62 l0_0 (rd t414 x15_1)).f0))) (fun _ hk => hk.2) (.int .i64 ((rd_T62 l0_0 (rd t414 x15_1)).f1))) (fun _ hk => hk.2) (.string ((rd_T62 l0_0 (rd t414 x15_1)).f2))) (fun _ hk => hk.2) (.slice A418_3 ((rd_T62 l0_0 (rd t414 x15_1)).f3).length c418_3)) (fun _ hk => hk.1))); (case aS => exact (below_size (be w))); (case aL => have := LMc17.out; omega); intro v422 w22 ho hb hg hat; rw [← Ny421.out] at ho; replace HO_13 := As.mk (Kd.R_after (ok := (fun _ => True)) (by (with_reducible repeat (first | apply Kd.R_alloc | apply Kd.R_drewN | apply Kd.R_drew)); exact Kd.R_mono (Kd.R_far (p := ⟨gb419, 3, none⟩) (Kd.R_far (p := ⟨gb419, 2, none⟩) (Kd.R_far (p := ⟨gb419, 1, none⟩) (Kd.R_far (p := ⟨gb419, 0, none⟩) (Kd.R_types HO_13.out BK419.out (by decide)) (fun _ hk => hk.2) (.int .i64 ((rd_T62 l0_0 (rd t414 x15_1)).f0))) (fun _ hk => hk.2) (.int .i64 ((rd_T62 l0_0 (rd t414 x15_1)).f1))) (fun _ hk => hk.2) (.string ((rd_T62 l0_0 (rd t414 x15_1)).f2))) (fun _ hk => hk.2) (.slice A418_3 ((rd_T62 l0_0 (rd t414 x15_1)).f3).length c418_3)) (fun _ hk => ⟨trivial, hk.1⟩)) hg hat); replace BK413 := As.mk (blk_grown (g := gb413) (o := .cells #[.slice (some ad418) l0_0.length c0_0, .slice A0_1 l0_1.length c0_1] 32 (0, 0)) (by refine pl ?_; refine blk_far ?_ NB413_419.out _; refine pl ?_; refine blk_far ?_ NB413_419.out _; refine pl ?_; refine blk_far ?_ NB413_419.out _; refine pl ?_; refine blk_far ?_ NB413_419.out _; exact bx BK413.out) hg (Kd.R_ne HO_7.out BK413.out (by decide))); replace BK419 := As.mk (blk_grown (g := gb419) (o := .cells #[.int .i64 ((rd_T62 l0_0 (rd t414 x15_1)).f0), .int .i64 ((rd_T62 l0_0 (rd t414 x15_1)).f1), .string ((rd_T62 l0_0 (rd t414 x15_1)).f2), .slice A418_3 ((rd_T62 l0_0 (rd t414 x15_1)).f3).length c418_3] 62 (0, 0)) (by refine pl ?_; refine blk_put (cs := #[.int .i64 ((rd_T62 l0_0 (rd t414 x15_1)).f0), .int .i64 ((rd_T62 l0_0 (rd t414 x15_1)).f1), .string ((rd_T62 l0_0 (rd t414 x15_1)).f2), .slice none 0 0]) ?_ 3 _ rfl; refine pl ?_; refine blk_put (cs := #[.int .i64 ((rd_T62 l0_0 (rd t414 x15_1)).f0), .int .i64 ((rd_T62 l0_0 (rd t414 x15_1)).f1), .string (⟨#[]⟩ : ByteArray), .slice none 0 0]) ?_ 2 _ rfl; refine pl ?_; refine blk_put (cs := #[.int .i64 ((rd_T62 l0_0 (rd t414 x15_1)).f0), .int .i64 0, .string (⟨#[]⟩ : ByteArray), .slice none 0 0]) ?_ 1 _ rfl; refine pl ?_; refine blk_put (cs := #[.int .i64 0, .int .i64 0, .string (⟨#[]⟩ : ByteArray), .slice none 0 0]) ?_ 0 _ rfl; exact bx BK419.out) hg (Kd.R_ne HO_7.out BK419.out (by decide))); replace HB := As.mk (hb); have HO423 := As.mk (ho); clear HO_7; clear ho hb hg hat))
   go_roundg k1
   case measure => have := HK1.out; omega
   case rel => exact ⟨(y421), (wrap64 (x15_1 + 1)), (by first | rfl | (simp; done) | (simp [*]; done)), H', ⟨by have := HK1.out; omega⟩, ⟨by (with_reducible repeat (first | apply Kd.R_alloc | apply Kd.R_drewN | apply Kd.R_drew)); exact HO423.out⟩, ⟨by (with_reducible repeat (first | apply Kd.R_alloc | apply Kd.R_drewN | apply Kd.R_drew)); exact Kd.R_mono HO_13.out (fun _ hk => hk.2)⟩, ⟨bx BK413.out⟩, ⟨be w⟩⟩
/-! ### laws_FnExactUsesOf: function 8 -/
def laws_FnExactUsesOf.j0 : Nat → Int → ByteArray → List Int → List Int → Bool → List (S80) → List (S84) → Option (Bool)
 | 0, _, _, _, _, _, _, _ => none
 | k + 1, x1, x2, x8, x10, x53, x425000, x425001 => if x53 = true then (some false) else ((laws_markIntS.f k x10 1).bind fun bt455 => ((laws_heldIntS.f k bt455.2 1).bind fun t457 => (if t457 < 0 then (some false) else (if t457 = bt455.1 then ((laws_toProgram.f k x425000 x425001).bind fun bt458 => ((impl_UsesOf.f k bt458.1 bt458.2 x1 x2).bind fun t464 => ((laws_eqIntS.f k t464 x8).bind fun t467 => (if t467 = true then ((laws_heldIntS.f k bt455.2 1).bind fun t468 => (if t468 < 0 then (some false) else (if t468 = bt455.1 then (some true) else (some false)))) else (some false))))) else (some false)))))
def laws_FnExactUsesOf.f (k : Nat) (l0_0 : List (S80)) (l0_1 : List (S84)) (a1 : Int) (a2 : ByteArray) : Option (Bool) := if (a2.size : Int) > 1048576 then (some true) else ((laws_szProgram.f k l0_0 l0_1 1048576).bind fun t425 => (if t425 < 0 then (some true) else ((laws_toProgram.f k l0_0 l0_1).bind fun bt426 => ((spec_UsesOf.f k bt426.1 bt426.2 a1 a2).bind fun t432 => ((laws_toProgram.f k l0_0 l0_1).bind fun bt435 => ((impl_UsesOf.f k bt435.1 bt435.2 a1 a2).bind fun t442 => ((laws_eqIntS.f k t442 t432).bind fun t445 => (if t445 = true then ((laws_toProgram.f k l0_0 l0_1).bind fun bt446 => ((laws_eqProgram.f k bt435.1 bt435.2 bt446.1 bt446.2).bind fun t452 => (if t452 = true then ((laws_markProgram.f bt435.1 bt435.2 1).bind fun t453 => (if t453 < 0 then (laws_FnExactUsesOf.j0 k a1 a2 t432 t442 true l0_0 l0_1) else ((laws_eqIntS.f k t442 t432).bind fun t454 => (laws_FnExactUsesOf.j0 k a1 a2 t432 t442 (!t454) l0_0 l0_1)))) else (some false)))) else (some false)))))))))
theorem laws_FnExactUsesOf.mono_l : ∀ k, (∀ y0 y1 y2 y3 y4 y5 y6, LeO (laws_FnExactUsesOf.j0 k y0 y1 y2 y3 y4 y5 y6) (laws_FnExactUsesOf.j0 (k + 1) y0 y1 y2 y3 y4 y5 y6))
 | 0 => fun _ _ _ _ _ _ _ r h => by simp [laws_FnExactUsesOf.j0] at h
 | k + 1 => by
  have ih0 := laws_FnExactUsesOf.mono_l k
  ·
   intro y0 y1 y2 y3 y4 y5 y6
   unfold laws_FnExactUsesOf.j0
   with_reducible repeat' first | exact ih0 _ _ _ _ _ _ _ | exact impl_UsesOf.mono _ _ _ _ _ | exact laws_eqIntS.mono _ _ _ | exact laws_eqProgram.mono _ _ _ _ _ | exact laws_heldIntS.mono _ _ _ | exact laws_markIntS.mono _ _ _ | exact laws_szProgram.mono _ _ _ _ | exact laws_toProgram.mono _ _ _ | exact spec_UsesOf.mono _ _ _ _ _ | exact LeO.refl _ | exact LeO.none _ | refine LeO.ite ?_ ?_ | refine LeO.bind ?_ (fun _ => ?_)
theorem laws_FnExactUsesOf.mono : ∀ a0 a1 a2 a3 k, LeO (laws_FnExactUsesOf.f k a0 a1 a2 a3) (laws_FnExactUsesOf.f (k + 1) a0 a1 a2 a3) := by
 intro a0 a1 a2 a3 k
 have ih0 := laws_FnExactUsesOf.mono_l k
 unfold laws_FnExactUsesOf.f
 with_reducible repeat' first | exact ih0 _ _ _ _ _ _ _ | exact impl_UsesOf.mono _ _ _ _ _ | exact laws_eqIntS.mono _ _ _ | exact laws_eqProgram.mono _ _ _ _ _ | exact laws_heldIntS.mono _ _ _ | exact laws_markIntS.mono _ _ _ | exact laws_szProgram.mono _ _ _ _ | exact laws_toProgram.mono _ _ _ | exact spec_UsesOf.mono _ _ _ _ _ | exact LeO.refl _ | exact LeO.none _ | refine LeO.ite ?_ ?_ | refine LeO.bind ?_ (fun _ => ?_)
set_option maxHeartbeats 8000000 in
set_option maxRecDepth 100000 in
theorem laws_FnExactUsesOf.calls (k : Nat) (A0_0 : Option Addr) (c0_0 : Nat) (l0_0 : List (S80)) (A0_1 : Option Addr) (c0_1 : Nat) (l0_1 : List (S84)) (a1 : Int) (a2 : ByteArray) (r : Bool) (w : World) (hr0_0 : Kd.C k80 w A0_0 l0_0.length l0_0) (hc0_0 : l0_0.length ≤ c0_0) (hr0_1 : Kd.C k84 w A0_1 l0_1.length l0_1) (hc0_1 : l0_1.length ≤ c0_1) (hrt : As (r = true)) (h : laws_FnExactUsesOf.f k l0_0 l0_1 a1 a2 = some r) :
  Calls Tryz.prog 8 #[.agg #[.slice A0_0 l0_0.length c0_0, .slice A0_1 l0_1.length c0_1], .int .i64 a1, .string a2] w fun e w' => e = .returned (.bool r) ∧ Below w.heap.size w w' := by
 have hu25 := Tryz.underlying25
 have hu32 := Tryz.underlying32
 have HR0_0 := As.mk hr0_0
 have HC0_0 := As.mk hc0_0
 clear hr0_0 hc0_0
 have HR0_1 := As.mk hr0_1
 have HC0_1 := As.mk hc0_1
 clear hr0_1 hc0_1
 have HB := As.mk (Below.refl w.heap.size w)
 have H : (if (a2.size : Int) > 1048576 then (some true) else ((laws_szProgram.f k l0_0 l0_1 1048576).bind fun t425 => (if t425 < 0 then (some true) else ((laws_toProgram.f k l0_0 l0_1).bind fun bt426 => ((spec_UsesOf.f k bt426.1 bt426.2 a1 a2).bind fun t432 => ((laws_toProgram.f k l0_0 l0_1).bind fun bt435 => ((impl_UsesOf.f k bt435.1 bt435.2 a1 a2).bind fun t442 => ((laws_eqIntS.f k t442 t432).bind fun t445 => (if t445 = true then ((laws_toProgram.f k l0_0 l0_1).bind fun bt446 => ((laws_eqProgram.f k bt435.1 bt435.2 bt446.1 bt446.2).bind fun t452 => (if t452 = true then ((laws_markProgram.f bt435.1 bt435.2 1).bind fun t453 => (if t453 < 0 then (laws_FnExactUsesOf.j0 k a1 a2 t432 t442 true l0_0 l0_1) else ((laws_eqIntS.f k t442 t432).bind fun t454 => (laws_FnExactUsesOf.j0 k a1 a2 t432 t442 (!t454) l0_0 l0_1)))) else (some false)))) else (some false)))))))))) = some r := h
 clear h
 by_cases c4 : (a2.size : Int) > 1048576
 ·
  rw [if_pos c4] at H
  have c4b0 : decide (1048576 < (a2.size : Int)) = true := decide_eq_true c4
  have c4b1 : decide (1048576 < a2.size) = true := decide_eq_true (by omega)
  clear c4
  obtain rfl := Option.some.inj H
  go_enter Tryz.func8, Tryz.ntmps8
  go_wp2_with (first | ((with_reducible refine gate_dst (N := 3) rfl ?_); refine box_event ?hg (N := 3) ?hd (cs := #[.slice A0_0 l0_0.length c0_0, .slice A0_1 l0_1.length c0_1]) (t := 25) ?hr ?_; (case hd => rfl); (case hg => rfl); (case hr => first | (go_simp; done) | (go_simp; rfl)); intro gb424 hg w5 hbox hb; have BK424 := As.mk (hbox); have GW424 := As.mk (gs w hg); have GE424 := As.mk (gs w hg); replace HB := As.mk (below_step (be w) hb); clear hb hbox hg))
  go_ret
  exact ⟨ez, be w⟩
 rw [if_neg c4] at H
 have c4b0 : decide (1048576 < (a2.size : Int)) = false := decide_eq_false c4
 have c4b1 : decide (1048576 < a2.size) = false := decide_eq_false (by omega)
 clear c4
 obtain ⟨t425, A60, H⟩ := Option.bind_eq_some_iff.mp H
 try dsimp only at H
 have A6 := As.mk A60
 clear A60
 by_cases c7 : t425 < 0
 ·
  rw [if_pos c7] at H
  have c7b0 : decide (t425 < 0) = true := decide_eq_true c7
  clear c7
  obtain rfl := Option.some.inj H
  go_enter Tryz.func8, Tryz.ntmps8
  go_wp2_with (first | ((with_reducible refine gate_dst (N := 3) rfl ?_); refine box_event ?hg (N := 3) ?hd (cs := #[.slice A0_0 l0_0.length c0_0, .slice A0_1 l0_1.length c0_1]) (t := 25) ?hr ?_; (case hd => rfl); (case hg => rfl); (case hr => first | (go_simp; done) | (go_simp; rfl)); intro gb424 hg w8 hbox hb; have BK424 := As.mk (hbox); have GW424 := As.mk (gs w hg); have GE424 := As.mk (gs w hg); replace HB := As.mk (below_step (be w) hb); clear hb hbox hg; obtain ⟨hcz9_0, hcz9_1, hfz9_0, hfz9_1⟩ := cl2 BK424.out) | ((with_reducible refine gate_callee (f := 9) rfl ?_); refine goesL_ (some 20) rfl rfl Tryz.func9 (by kernel_rfl) rfl #[.agg #[.slice A0_0 l0_0.length c0_0, .slice A0_1 l0_1.length c0_1], .int .i64 1048576] rfl (by (try simp only [lm]); first | done | rfl | (simp only [List.length_drop, List.length_take]; rfl)) ?_; (with_reducible refine (laws_szProgram.calls k _ _ l0_0 _ _ l0_1 1048576 t425 _ ?side1 ?side2 ?side3 ?side4 A6.out).mono ?_); (case side1 => exact Kd.C_below HR0_0.out (be w)); (case side2 => exact HC0_0.out); (case side3 => exact Kd.C_below HR0_1.out (be w)); (case side4 => exact HC0_1.out); rintro e w10 ⟨rfl, hb⟩; refine ⟨_, rfl, ?_⟩; replace HB := As.mk (below_step (be w) hb); (try clear hb); (try clear hb2); (try clear hk); (try clear hi)))
  go_ret
  exact ⟨ez, be w⟩
 rw [if_neg c7] at H
 have c7b0 : decide (t425 < 0) = false := decide_eq_false c7
 clear c7
 obtain ⟨⟨t426, t429⟩, A110, H⟩ := Option.bind_eq_some_iff.mp H
 try dsimp only at H
 have A11 := As.mk A110
 clear A110
 obtain ⟨t432, A120, H⟩ := Option.bind_eq_some_iff.mp H
 try dsimp only at H
 have A12 := As.mk A120
 clear A120
 obtain ⟨⟨t435, t438⟩, A130, H⟩ := Option.bind_eq_some_iff.mp H
 try dsimp only at H
 have A13 := As.mk A130
 clear A130
 obtain ⟨t442, A140, H⟩ := Option.bind_eq_some_iff.mp H
 try dsimp only at H
 have A14 := As.mk A140
 clear A140
 obtain ⟨t445, A150, H⟩ := Option.bind_eq_some_iff.mp H
 try dsimp only at H
 have A15 := As.mk A150
 clear A150
 by_cases c16 : t445 = true
 rotate_left
 ·
  replace c16 := Bool.eq_false_iff.mpr c16
  subst c16
  rw [if_neg (show ¬ (false = true) by decide)] at H
  exact absurd H (by rw [hrt.out]; simp)

 subst c16
 rw [if_pos rfl] at H
 obtain ⟨⟨t446, t449⟩, A170, H⟩ := Option.bind_eq_some_iff.mp H
 try dsimp only at H
 have A17 := As.mk A170
 clear A170
 obtain ⟨t452, A180, H⟩ := Option.bind_eq_some_iff.mp H
 try dsimp only at H
 have A18 := As.mk A180
 clear A180
 by_cases c19 : t452 = true
 rotate_left
 ·
  replace c19 := Bool.eq_false_iff.mpr c19
  subst c19
  rw [if_neg (show ¬ (false = true) by decide)] at H
  exact absurd H (by rw [hrt.out]; simp)
 subst c19
 rw [if_pos rfl] at H
 obtain ⟨t453, A200, H⟩ := Option.bind_eq_some_iff.mp H
 try dsimp only at H
 have A20 := As.mk A200
 clear A200
 have HC21 := As.mk H
 clear H
 go_enter Tryz.func8, Tryz.ntmps8
 try go_wp2_with (first | ((with_reducible refine gate_dst (N := 3) rfl ?_); refine box_event ?hg (N := 3) ?hd (cs := #[.slice A0_0 l0_0.length c0_0, .slice A0_1 l0_1.length c0_1]) (t := 25) ?hr ?_; (case hd => rfl); (case hg => rfl); (case hr => first | (go_simp; done) | (go_simp; rfl)); intro gb424 hg w22 hbox hb; have BK424 := As.mk (hbox); have GW424 := As.mk (gs w hg); have GE424 := As.mk (gs w hg); replace HB := As.mk (below_step (be w) hb); clear hb hbox hg; obtain ⟨hcz23_0, hcz23_1, hfz23_0, hfz23_1⟩ := cl2 BK424.out) | ((with_reducible refine gate_callee (f := 9) rfl ?_); refine goesL_ (some 20) rfl rfl Tryz.func9 (by kernel_rfl) rfl #[.agg #[.slice A0_0 l0_0.length c0_0, .slice A0_1 l0_1.length c0_1], .int .i64 1048576] rfl (by (try simp only [lm]); first | done | rfl | (simp only [List.length_drop, List.length_take]; rfl)) ?_; (with_reducible refine (laws_szProgram.calls k _ _ l0_0 _ _ l0_1 1048576 t425 _ ?side1 ?side2 ?side3 ?side4 A6.out).mono ?_); (case side1 => exact Kd.C_below HR0_0.out (be w)); (case side2 => exact HC0_0.out); (case side3 => exact Kd.C_below HR0_1.out (be w)); (case side4 => exact HC0_1.out); rintro e w24 ⟨rfl, hb⟩; refine ⟨_, rfl, ?_⟩; replace BK424 := As.mk (blk_below (bx BK424.out) hb); replace HB := As.mk (below_step (be w) hb); (try clear hb); (try clear hb2); (try clear hk); (try clear hi); obtain ⟨hcz25_0, hcz25_1, hfz25_0, hfz25_1⟩ := cl2 BK424.out) | ((with_reducible refine gate_callee (f := 11) rfl ?_); refine goesL_ (some 24) rfl rfl Tryz.func11 (by kernel_rfl) rfl #[.agg #[.slice A0_0 l0_0.length c0_0, .slice A0_1 l0_1.length c0_1]] rfl (by (try simp only [lm]); first | done | rfl | (simp only [List.length_drop, List.length_take]; rfl)) ?_; (with_reducible refine (laws_toProgram.calls k _ _ l0_0 _ _ l0_1 t426 t429 _ ?side1 ?side2 ?side3 ?side4 A11.out).mono ?_); (case side1 => exact Kd.C_below HR0_0.out (be w)); (case side2 => exact HC0_0.out); (case side3 => exact Kd.C_below HR0_1.out (be w)); (case side4 => exact HC0_1.out); rintro e w26 ⟨v427, v430, rfl, ho0, ho1, hb⟩; refine ⟨_, rfl, ?_⟩; have HO428 := As.mk (Kd.S_lower ho0 (below_size (be w))); have HO431 := As.mk (Kd.S_lower ho1 (below_size (be w))); replace BK424 := As.mk (blk_below (bx BK424.out) hb); replace HB := As.mk (below_step (be w) hb); (try clear hb); (try clear hb2); (try clear hk); (try clear hi); (try clear ho0); (try clear ho1); obtain ⟨Ao27, co27, eo27⟩ := Kd.S_slice HO428.out; subst eo27; obtain ⟨Ao28, co28, eo28⟩ := Kd.S_slice HO431.out; subst eo28) | ((with_reducible refine gate_callee (f := 29) rfl ?_); refine goesL_ (some 27) rfl rfl Tryz.func29 (by kernel_rfl) rfl #[.agg #[.slice Ao27 t426.length co27, .slice Ao28 t429.length co28], .int .i64 a1, .string a2] rfl (by (try simp only [lm]); first | done | rfl | (simp only [List.length_drop, List.length_take]; rfl)) ?_; (with_reducible refine (spec_UsesOf.calls k _ _ t426 _ _ t429 a1 a2 t432 _ ?side1 ?side2 ?side3 ?side4 A12.out).mono ?_); (case side1 => repeat (first | exact (Kd.S_reads' HO428.out).2.2 | (with_reducible refine Kd.C_alloc ?_ _) | (with_reducible refine Kd.C_drewN ?_ _) | (with_reducible refine Kd.C_drew ?_))); (case side2 => exact (Kd.S_reads' HO428.out).2.1); (case side3 => repeat (first | exact (Kd.S_reads' HO431.out).2.2 | (with_reducible refine Kd.C_alloc ?_ _) | (with_reducible refine Kd.C_drewN ?_ _) | (with_reducible refine Kd.C_drew ?_))); (case side4 => exact (Kd.S_reads' HO431.out).2.1); rintro e w29 ⟨v433, rfl, ho0, hb⟩; refine ⟨_, rfl, ?_⟩; replace HO428 := As.mk (Kd.S_elder' (by (with_reducible repeat (first | apply Kd.S_alloc | apply Kd.S_drewN | apply Kd.S_drew)); exact HO428.out) (Kd.R_base ho0) hb); replace HO431 := As.mk (Kd.S_below (by (with_reducible repeat (first | apply Kd.S_alloc | apply Kd.S_drewN | apply Kd.S_drew)); exact HO431.out) hb); have HO434 := As.mk (Kd.R_lower ho0 (below_size (be w))); replace BK424 := As.mk (blk_below (bx BK424.out) hb); replace HB := As.mk (below_step (be w) hb); (try clear hb); (try clear hb2); (try clear hk); (try clear hi); (try clear ho0); obtain ⟨hcz30_0, hcz30_1, hfz30_0, hfz30_1⟩ := cl2 BK424.out) | ((with_reducible refine gate_callee (f := 11) rfl ?_); refine goesL_ (some 29) rfl rfl Tryz.func11 (by kernel_rfl) rfl #[.agg #[.slice A0_0 l0_0.length c0_0, .slice A0_1 l0_1.length c0_1]] rfl (by (try simp only [lm]); first | done | rfl | (simp only [List.length_drop, List.length_take]; rfl)) ?_; (with_reducible refine (laws_toProgram.calls k _ _ l0_0 _ _ l0_1 t435 t438 _ ?side1 ?side2 ?side3 ?side4 A13.out).mono ?_); (case side1 => exact Kd.C_below HR0_0.out (be w)); (case side2 => exact HC0_0.out); (case side3 => exact Kd.C_below HR0_1.out (be w)); (case side4 => exact HC0_1.out); rintro e w31 ⟨v436, v439, rfl, ho0, ho1, hb⟩; refine ⟨_, rfl, ?_⟩; have HO437 := As.mk (Kd.S_lower (Kd.S_new' (Kd.S_new' ho0 (Kd.S_lt (by (with_reducible repeat (first | apply Kd.S_alloc | apply Kd.S_drewN | apply Kd.S_drew)); exact HO428.out))) (Kd.R_lt (by (with_reducible repeat (first | apply Kd.R_alloc | apply Kd.R_drewN | apply Kd.R_drew)); exact HO434.out))) (below_size (be w))); replace HO428 := As.mk (Kd.S_elder' (by (with_reducible repeat (first | apply Kd.S_alloc | apply Kd.S_drewN | apply Kd.S_drew)); exact HO428.out) (Kd.S_base ho0) hb); replace HO434 := As.mk (Kd.R_below (by (with_reducible repeat (first | apply Kd.R_alloc | apply Kd.R_drewN | apply Kd.R_drew)); exact HO434.out) hb); have HO440 := As.mk (Kd.S_lower (Kd.S_new' ho1 (Kd.S_lt (by (with_reducible repeat (first | apply Kd.S_alloc | apply Kd.S_drewN | apply Kd.S_drew)); exact HO431.out))) (below_size (be w))); replace HO431 := As.mk (Kd.S_elder' (by (with_reducible repeat (first | apply Kd.S_alloc | apply Kd.S_drewN | apply Kd.S_drew)); exact HO431.out) (Kd.S_base ho1) hb); replace BK424 := As.mk (blk_below (bx BK424.out) hb); replace HB := As.mk (below_step (be w) hb); (try clear hb); (try clear hb2); (try clear hk); (try clear hi); (try clear ho0); (try clear ho1)) | ((with_reducible refine gate_dst (N := 9) rfl ?_); refine box_event ?hg (N := 9) ?hd (cs := #[.slice none 0 0, .slice none 0 0]) (t := 32) ?hr ?_; (case hd => rfl); (case hg => rfl); (case hr => first | (go_simp; done) | (go_simp; rfl)); intro gb441 hg w32 hbox hb; replace HO428 := As.mk (Kd.S_below (by (with_reducible repeat (first | apply Kd.S_alloc | apply Kd.S_drewN | apply Kd.S_drew)); exact HO428.out) hb); replace HO431 := As.mk (Kd.S_below (by (with_reducible repeat (first | apply Kd.S_alloc | apply Kd.S_drewN | apply Kd.S_drew)); exact HO431.out) hb); replace HO434 := As.mk (Kd.R_below (by (with_reducible repeat (first | apply Kd.R_alloc | apply Kd.R_drewN | apply Kd.R_drew)); exact HO434.out) hb); replace HO437 := As.mk (Kd.S_below (by (with_reducible repeat (first | apply Kd.S_alloc | apply Kd.S_drewN | apply Kd.S_drew)); exact HO437.out) hb); replace HO440 := As.mk (Kd.S_below (by (with_reducible repeat (first | apply Kd.S_alloc | apply Kd.S_drewN | apply Kd.S_drew)); exact HO440.out) hb); have BK441 := As.mk (hbox); have GW441 := As.mk (gs w hg); have GE441 := As.mk (gs w hg); replace HB := As.mk (below_step (be w) hb); have NB424_441 := As.mk (nl hg (bx BK424.out)); have NB441_424 := As.mk (ng hg (bx BK424.out)); replace BK424 := As.mk (blk_below (bx BK424.out) hb); clear hb hbox hg; obtain ⟨Ao33, co33, eo33⟩ := Kd.S_slice HO437.out; subst eo33; have hnb34 := NB441_424.out; have hnc34 := NB424_441.out; obtain ⟨hcz35_0, hcz35_1, hfz35_0, hfz35_1⟩ := cl2 BK441.out; obtain ⟨Ao36, co36, eo36⟩ := Kd.S_slice HO440.out; subst eo36) | ((with_reducible refine gate_callee (f := 30) rfl ?_); refine goesL_ (some 33) rfl rfl Tryz.func30 (by kernel_rfl) rfl #[.agg #[.slice Ao33 t435.length co33, .slice Ao36 t438.length co36], .int .i64 a1, .string a2] rfl (by (try simp only [lm]); first | done | rfl | (simp only [List.length_drop, List.length_take]; rfl)) ?_; (with_reducible refine (impl_UsesOf.calls k _ _ t435 _ _ t438 a1 a2 t442 _ ?side1 ?side2 ?side3 ?side4 A14.out).mono ?_); (case side1 => refine (Kd.S_reads' (e := 62) (base := w.heap.size) (ok := fun k_ => ((True ∧ some k_ ≠ (.slice Ao27 t426.length co27 : Value).ownBlock) ∧ some k_ ≠ (v433 : Value).ownBlock)) (n := t435.length) (c := co33) ?_).2.2; exact (by (with_reducible repeat (first | apply Kd.S_alloc | apply Kd.S_drewN | apply Kd.S_drew)); exact (Kd.S_mono (Kd.S_far (p := ⟨gb441, 1, none⟩) (Kd.S_far (p := ⟨gb441, 0, none⟩) (Kd.S_types HO437.out BK441.out (by decide)) (fun _ hk => hk.2) (.slice Ao33 t435.length co33)) (fun _ hk => hk.2) (.slice Ao36 t438.length co36)) (fun _ h_ => h_.1)))); (case side2 => exact (Kd.S_reads' HO437.out).2.1); (case side3 => refine (Kd.S_reads' (e := 56) (base := w.heap.size) (ok := fun k_ => (True ∧ some k_ ≠ (.slice Ao28 t429.length co28 : Value).ownBlock)) (n := t438.length) (c := co36) ?_).2.2; exact (by (with_reducible repeat (first | apply Kd.S_alloc | apply Kd.S_drewN | apply Kd.S_drew)); exact (Kd.S_mono (Kd.S_far (p := ⟨gb441, 1, none⟩) (Kd.S_far (p := ⟨gb441, 0, none⟩) (Kd.S_types HO440.out BK441.out (by decide)) (fun _ hk => hk.2) (.slice Ao33 t435.length co33)) (fun _ hk => hk.2) (.slice Ao36 t438.length co36)) (fun _ h_ => h_.1)))); (case side4 => exact (Kd.S_reads' HO440.out).2.1); rintro e w37 ⟨v443, rfl, ho0, hb⟩; refine ⟨_, rfl, ?_⟩; replace HO428 := As.mk (Kd.S_elder' (by (with_reducible repeat (first | apply Kd.S_alloc | apply Kd.S_drewN | apply Kd.S_drew)); exact (Kd.S_mono (Kd.S_far (p := ⟨gb441, 1, none⟩) (Kd.S_far (p := ⟨gb441, 0, none⟩) (Kd.S_types HO428.out BK441.out (by decide)) (fun _ hk => hk.2) (.slice Ao33 t435.length co33)) (fun _ hk => hk.2) (.slice Ao36 t438.length co36)) (fun _ h_ => h_.1))) (Kd.R_base ho0) hb); replace HO431 := As.mk (Kd.S_below (by (with_reducible repeat (first | apply Kd.S_alloc | apply Kd.S_drewN | apply Kd.S_drew)); exact (Kd.S_mono (Kd.S_far (p := ⟨gb441, 1, none⟩) (Kd.S_far (p := ⟨gb441, 0, none⟩) (Kd.S_types HO431.out BK441.out (by decide)) (fun _ hk => hk.2) (.slice Ao33 t435.length co33)) (fun _ hk => hk.2) (.slice Ao36 t438.length co36)) (fun _ h_ => h_.1))) hb); replace HO437 := As.mk (Kd.S_elder' (by (with_reducible repeat (first | apply Kd.S_alloc | apply Kd.S_drewN | apply Kd.S_drew)); exact (Kd.S_mono (Kd.S_far (p := ⟨gb441, 1, none⟩) (Kd.S_far (p := ⟨gb441, 0, none⟩) (Kd.S_types HO437.out BK441.out (by decide)) (fun _ hk => hk.2) (.slice Ao33 t435.length co33)) (fun _ hk => hk.2) (.slice Ao36 t438.length co36)) (fun _ h_ => h_.1))) (Kd.R_base ho0) hb); replace HO440 := As.mk (Kd.S_below (by (with_reducible repeat (first | apply Kd.S_alloc | apply Kd.S_drewN | apply Kd.S_drew)); exact (Kd.S_mono (Kd.S_far (p := ⟨gb441, 1, none⟩) (Kd.S_far (p := ⟨gb441, 0, none⟩) (Kd.S_types HO440.out BK441.out (by decide)) (fun _ hk => hk.2) (.slice Ao33 t435.length co33)) (fun _ hk => hk.2) (.slice Ao36 t438.length co36)) (fun _ h_ => h_.1))) hb); have HO444 := As.mk (Kd.R_lower (Kd.R_new' ho0 (Kd.R_lt (by (with_reducible repeat (first | apply Kd.R_alloc | apply Kd.R_drewN | apply Kd.R_drew)); (have z_ := R_far2 HO434.out BK441.out (by decide)); with_reducible exact z_ _ _))) (below_size (be w))); replace HO434 := As.mk (Kd.R_elder' (by (with_reducible repeat (first | apply Kd.R_alloc | apply Kd.R_drewN | apply Kd.R_drew)); (have z_ := R_far2 HO434.out BK441.out (by decide)); with_reducible exact z_ _ _) (Kd.R_base ho0) hb); replace BK424 := As.mk (blk_below (g := gb424) (o := .cells #[.slice A0_0 l0_0.length c0_0, .slice A0_1 l0_1.length c0_1] 25 (0, 0)) (by refine pl ?_; refine blk_far ?_ NB424_441.out _; refine pl ?_; refine blk_far ?_ NB424_441.out _; exact bx BK424.out) hb); replace BK441 := As.mk (blk_below (g := gb441) (o := .cells #[.slice Ao33 t435.length co33, .slice Ao36 t438.length co36] 32 (0, 0)) (by refine pl ?_; refine blk_put (cs := #[.slice Ao33 t435.length co33, .slice none 0 0]) ?_ 1 _ rfl; refine pl ?_; refine blk_put (cs := #[.slice none 0 0, .slice none 0 0]) ?_ 0 _ rfl; exact bx BK441.out) hb); replace HB := As.mk (below_step (be w) hb); (try clear hb); (try clear hb2); (try clear hk); (try clear hi); (try clear ho0); obtain ⟨Ao38, co38, eo38⟩ := Kd.R_slice HO444.out; subst eo38; obtain ⟨Ao39, co39, eo39⟩ := Kd.R_slice HO434.out; subst eo39) | ((with_reducible refine gate_callee (f := 26) rfl ?_); refine goesL_ (some 36) rfl rfl Tryz.func26 (by kernel_rfl) rfl #[.slice Ao38 t442.length co38, .slice Ao39 t432.length co39] rfl (by (try simp only [lm]); first | done | rfl | (simp only [List.length_drop, List.length_take]; rfl)) ?_; (with_reducible refine (laws_eqIntS.calls k _ _ t442 _ _ t432 true _ ?side1 ?side2 ?side3 ?side4 A15.out).mono ?_); (case side1 => repeat (first | exact (Kd.R_reads' HO444.out).2.2 | (with_reducible refine Kd.C_alloc ?_ _) | (with_reducible refine Kd.C_drewN ?_ _) | (with_reducible refine Kd.C_drew ?_))); (case side2 => exact (Kd.R_reads' HO444.out).2.1); (case side3 => repeat (first | exact (Kd.R_reads' HO434.out).2.2 | (with_reducible refine Kd.C_alloc ?_ _) | (with_reducible refine Kd.C_drewN ?_ _) | (with_reducible refine Kd.C_drew ?_))); (case side4 => exact (Kd.R_reads' HO434.out).2.1); rintro e w' ⟨rfl, ⟨nd, rfl⟩⟩; refine ⟨_, rfl, ?_⟩))
 (try (rw [drewN_self w37]; generalize hq_ : World.drewN w37 _ = w37; have n0_ : As (Kd.S k62 62 w37 w.heap.size (fun k_ => some k_ ≠ (.slice Ao39 t432.length co39 : Value).ownBlock ∧ some k_ ≠ (.slice Ao33 t435.length co33 : Value).ownBlock ∧ some k_ ≠ (.slice Ao38 t442.length co38 : Value).ownBlock) (.slice Ao27 t426.length co27) t426) := ⟨by rw [← hq_]; exact (by (with_reducible repeat (first | apply Kd.S_alloc | apply Kd.S_drewN | apply Kd.S_drew)); exact Kd.S_mono HO428.out (fun _ hk => ⟨hk.1.1.2, ⟨hk.1.2, hk.2⟩⟩))⟩; have n1_ : As (Kd.S k56 56 w37 w.heap.size (fun k_ => some k_ ≠ (.slice Ao36 t438.length co36 : Value).ownBlock) (.slice Ao28 t429.length co28) t429) := ⟨by rw [← hq_]; exact (by (with_reducible repeat (first | apply Kd.S_alloc | apply Kd.S_drewN | apply Kd.S_drew)); exact Kd.S_mono HO431.out (fun _ hk => hk.2))⟩; have n2_ : As (Kd.R (Kd.int .i64) 3 w37 w.heap.size (fun k_ => some k_ ≠ (.slice Ao38 t442.length co38 : Value).ownBlock) (.slice Ao39 t432.length co39) t432) := ⟨by rw [← hq_]; exact (by (with_reducible repeat (first | apply Kd.R_alloc | apply Kd.R_drewN | apply Kd.R_drew)); exact Kd.R_mono HO434.out (fun _ hk => hk.2))⟩; have n3_ : As (Kd.S k62 62 w37 w.heap.size (fun k_ => some k_ ≠ (.slice Ao27 t426.length co27 : Value).ownBlock ∧ some k_ ≠ (.slice Ao39 t432.length co39 : Value).ownBlock ∧ some k_ ≠ (.slice Ao38 t442.length co38 : Value).ownBlock) (.slice Ao33 t435.length co33) t435) := ⟨by rw [← hq_]; exact (by (with_reducible repeat (first | apply Kd.S_alloc | apply Kd.S_drewN | apply Kd.S_drew)); exact Kd.S_mono HO437.out (fun _ hk => ⟨hk.1.1.2, ⟨hk.1.2, hk.2⟩⟩))⟩; have n4_ : As (Kd.S k56 56 w37 w.heap.size (fun k_ => some k_ ≠ (.slice Ao28 t429.length co28 : Value).ownBlock) (.slice Ao36 t438.length co36) t438) := ⟨by rw [← hq_]; exact (by (with_reducible repeat (first | apply Kd.S_alloc | apply Kd.S_drewN | apply Kd.S_drew)); exact Kd.S_mono HO440.out (fun _ hk => hk.2))⟩; have n5_ : As (Kd.R (Kd.int .i64) 3 w37 w.heap.size (fun k_ => some k_ ≠ (.slice Ao39 t432.length co39 : Value).ownBlock) (.slice Ao38 t442.length co38) t442) := ⟨by rw [← hq_]; exact (by (with_reducible repeat (first | apply Kd.R_alloc | apply Kd.R_drewN | apply Kd.R_drew)); exact Kd.R_mono HO444.out (fun _ hk => hk.2))⟩; have n6_ : As (w37.heap[gb424]? = some (.cells #[.slice A0_0 l0_0.length c0_0, .slice A0_1 l0_1.length c0_1] 25 (0, 0))) := ⟨by rw [← hq_]; exact (bx BK424.out)⟩; have n7_ : As (w37.heap[gb441]? = some (.cells #[.slice Ao33 t435.length co33, .slice Ao36 t438.length co36] 32 (0, 0))) := ⟨by rw [← hq_]; exact (bx BK441.out)⟩; have n8_ : As (Below w.heap.size w w37) := ⟨by rw [← hq_]; exact (be w)⟩; clear HO428 HO431 HO434 HO437 HO440 HO444 BK424 BK441 HB hq_; have HO428 := n0_; have HO431 := n1_; have HO434 := n2_; have HO437 := n3_; have HO440 := n4_; have HO444 := n5_; have BK424 := n6_; have BK441 := n7_; have HB := n8_; clear n0_ n1_ n2_ n3_ n4_ n5_ n6_ n7_ n8_))
 replace HO428 := As.mk (Kd.S_drew HO428.out)
 replace HO431 := As.mk (Kd.S_drew HO431.out)
 replace HO434 := As.mk (Kd.R_drew HO434.out)
 replace HO437 := As.mk (Kd.S_drew HO437.out)
 replace HO440 := As.mk (Kd.S_drew HO440.out)
 replace HO444 := As.mk (Kd.R_drew HO444.out)
 replace BK424 := As.mk (blk_drew BK424.out)
 replace BK441 := As.mk (blk_drew BK441.out)
 replace HB := As.mk (below_drew1 HB.out)
 refine start_ (n := 5) (S := fun w' => w'.cell? ⟨gb441, 0, none⟩ = some (.slice Ao33 t435.length co33) ∧ w'.cell? ⟨gb441, 1, none⟩ = some (.slice Ao36 t438.length co36) ∧ w'.cell? ⟨gb424, 0, none⟩ = some (.slice A0_0 l0_0.length c0_0) ∧ w'.cell? ⟨gb424, 1, none⟩ = some (.slice A0_1 l0_1.length c0_1)) (ds := []) #[O, O, O, O, O] (by kernel_rfl) rfl rfl ⟨(blk_cell BK441.out 0).trans rfl, (blk_cell BK441.out 1).trans rfl, (blk_cell BK424.out 0).trans rfl, (blk_cell BK424.out 1).trans rfl⟩ (fun hHeld => ?_)
 generalize w37.drew = w40 at HO428 HO431 HO434 HO437 HO440 HO444 BK424 BK441 HB hHeld ⊢
 refine take_ (i := 0) (N := some 38) (v := ?_) (a' := ?_) #[I, O, O, O, O] rfl rfl (by kernel_rfl) (fun _ _ _ h => h) (Or.inl ⟨by rfl, ?_⟩) hHeld ?_ ?_
 rotate_left; · rintro w' ⟨s0, s1, s2, s3⟩; go_simp; with_reducible rfl
 rotate_left; · simp only [pk, i64_w, i32_w]; rfl
 refine take_ (i := 1) (N := some 39) (v := ?_) (a' := ?_) #[I, I, O, O, O] rfl rfl (by kernel_rfl) (fun _ _ _ h => h) (Or.inl ⟨by rfl, ?_⟩) hHeld ?_ ?_
 rotate_left; · rintro w' ⟨s0, s1, s2, s3⟩; go_simp; with_reducible rfl
 rotate_left; · simp only [pk, i64_w, i32_w]; rfl
 refine one_ (i := 2) (N := some 40) #[I, I, I, O, O] rfl rfl (by kernel_rfl) (by decide) (fun K hK => ?_)
 refine goes_ Tryz.func11 (by kernel_rfl) rfl #[.agg #[.slice A0_0 l0_0.length c0_0, .slice A0_1 l0_1.length c0_1]] (by rfl) rfl rfl (by (try simp only [lm]); first | done | rfl | (simp only [List.length_drop, List.length_take]; rfl)) ?_
 with_reducible refine (laws_toProgram.calls k _ _ l0_0 _ _ l0_1 t446 t449 _ ?side1 ?side2 ?side3 ?side4 A17.out).mono ?_
 (case side1 => exact Kd.C_below HR0_0.out (be w))
 (case side2 => exact HC0_0.out)
 (case side3 => exact Kd.C_below HR0_1.out (be w))
 (case side4 => exact HC0_1.out)
 rintro e w41 ⟨v447, v450, rfl, ho0, ho1, hb⟩
 refine ⟨_, rfl, ?_⟩
 have HO448 := As.mk (Kd.S_lower (Kd.S_new' (Kd.S_new' (Kd.S_new' (Kd.S_new' ho0 (Kd.S_lt (by (with_reducible repeat (first | apply Kd.S_alloc | apply Kd.S_drewN | apply Kd.S_drew)); exact HO428.out))) (Kd.R_lt (by (with_reducible repeat (first | apply Kd.R_alloc | apply Kd.R_drewN | apply Kd.R_drew)); exact HO434.out))) (Kd.S_lt (by (with_reducible repeat (first | apply Kd.S_alloc | apply Kd.S_drewN | apply Kd.S_drew)); exact HO437.out))) (Kd.R_lt (by (with_reducible repeat (first | apply Kd.R_alloc | apply Kd.R_drewN | apply Kd.R_drew)); exact HO444.out))) (below_size (be w)))
 replace HO428 := As.mk (Kd.S_elder' (by (with_reducible repeat (first | apply Kd.S_alloc | apply Kd.S_drewN | apply Kd.S_drew)); exact HO428.out) (Kd.S_base ho0) hb)
 replace HO434 := As.mk (Kd.R_below (by (with_reducible repeat (first | apply Kd.R_alloc | apply Kd.R_drewN | apply Kd.R_drew)); exact HO434.out) hb)
 replace HO437 := As.mk (Kd.S_elder' (by (with_reducible repeat (first | apply Kd.S_alloc | apply Kd.S_drewN | apply Kd.S_drew)); exact HO437.out) (Kd.S_base ho0) hb)
 replace HO444 := As.mk (Kd.R_below (by (with_reducible repeat (first | apply Kd.R_alloc | apply Kd.R_drewN | apply Kd.R_drew)); exact HO444.out) hb)
 have HO451 := As.mk (Kd.S_lower (Kd.S_new' (Kd.S_new' ho1 (Kd.S_lt (by (with_reducible repeat (first | apply Kd.S_alloc | apply Kd.S_drewN | apply Kd.S_drew)); exact HO431.out))) (Kd.S_lt (by (with_reducible repeat (first | apply Kd.S_alloc | apply Kd.S_drewN | apply Kd.S_drew)); exact HO440.out))) (below_size (be w)))
 replace HO431 := As.mk (Kd.S_elder' (by (with_reducible repeat (first | apply Kd.S_alloc | apply Kd.S_drewN | apply Kd.S_drew)); exact HO431.out) (Kd.S_base ho1) hb)
 replace HO440 := As.mk (Kd.S_elder' (by (with_reducible repeat (first | apply Kd.S_alloc | apply Kd.S_drewN | apply Kd.S_drew)); exact HO440.out) (Kd.S_base ho1) hb)
 replace BK424 := As.mk (blk_below (bx BK424.out) hb)
 replace BK441 := As.mk (blk_below (bx BK441.out) hb)
 replace HB := As.mk (below_step (be w) hb)
 (try clear hb)
 (try clear hb2)
 (try clear hk)
 (try clear hi)
 (try clear ho0)
 (try clear ho1)
 obtain ⟨Ao42, co42, eo42⟩ := Kd.S_slice HO448.out
 (first | subst eo42 | (injection eo42 with f1_ f2_ f3_; have f4_ := f1_.symm; have f5_ := f3_.symm; clear f1_ f2_ f3_; subst f4_; subst f5_))
 obtain ⟨Ao43, co43, eo43⟩ := Kd.S_slice HO451.out
 (first | subst eo43 | (injection eo43 with f1_ f2_ f3_; have f4_ := f1_.symm; have f5_ := f3_.symm; clear f1_ f2_ f3_; subst f4_; subst f5_))
 refine hK.out _ _ ⟨(blk_cell BK441.out 0).trans rfl, (blk_cell BK441.out 1).trans rfl, (blk_cell BK424.out 0).trans rfl, (blk_cell BK424.out 1).trans rfl⟩ (fun hHeld => ?_)
 clear hK K
 refine norm_ (a' := ?_) ?_ ?_
 rotate_left
 ·
  show Act.put _ (some 40) _ = _
  simp only [pk, i64_w, i32_w]
  rfl
 refine one_ (i := 3) (N := some 41) #[I, I, I, I, O] rfl rfl (by kernel_rfl) (by decide) (fun K hK => ?_)
 refine goes_ Tryz.func14 (by kernel_rfl) rfl #[.agg #[.slice Ao33 t435.length co33, .slice Ao36 t438.length co36], .agg #[.slice Ao42 t446.length co42, .slice Ao43 t449.length co43]] (by rfl) rfl rfl (by (try simp only [lm]); first | done | rfl | (simp only [List.length_drop, List.length_take]; rfl)) ?_
 with_reducible refine (laws_eqProgram.calls k _ _ t435 _ _ t438 _ _ t446 _ _ t449 true _ ?side1 ?side2 ?side3 ?side4 ?side5 ?side6 ?side7 ?side8 A18.out).mono ?_
 (case side1 => repeat (first | exact (Kd.S_reads' HO437.out).2.2 | (with_reducible refine Kd.C_alloc ?_ _) | (with_reducible refine Kd.C_drewN ?_ _) | (with_reducible refine Kd.C_drew ?_)))
 (case side2 => exact (Kd.S_reads' HO437.out).2.1)
 (case side3 => repeat (first | exact (Kd.S_reads' HO440.out).2.2 | (with_reducible refine Kd.C_alloc ?_ _) | (with_reducible refine Kd.C_drewN ?_ _) | (with_reducible refine Kd.C_drew ?_)))
 (case side4 => exact (Kd.S_reads' HO440.out).2.1)
 (case side5 => repeat (first | exact (Kd.S_reads' HO448.out).2.2 | (with_reducible refine Kd.C_alloc ?_ _) | (with_reducible refine Kd.C_drewN ?_ _) | (with_reducible refine Kd.C_drew ?_)))
 (case side6 => exact (Kd.S_reads' HO448.out).2.1)
 (case side7 => repeat (first | exact (Kd.S_reads' HO451.out).2.2 | (with_reducible refine Kd.C_alloc ?_ _) | (with_reducible refine Kd.C_drewN ?_ _) | (with_reducible refine Kd.C_drew ?_)))
 (case side8 => exact (Kd.S_reads' HO451.out).2.1)
 rintro e w44 ⟨rfl, hb⟩
 refine ⟨_, rfl, ?_⟩
 replace HO428 := As.mk (Kd.S_below (by (with_reducible repeat (first | apply Kd.S_alloc | apply Kd.S_drewN | apply Kd.S_drew)); exact HO428.out) hb)
 replace HO431 := As.mk (Kd.S_below (by (with_reducible repeat (first | apply Kd.S_alloc | apply Kd.S_drewN | apply Kd.S_drew)); exact HO431.out) hb)
 replace HO434 := As.mk (Kd.R_below (by (with_reducible repeat (first | apply Kd.R_alloc | apply Kd.R_drewN | apply Kd.R_drew)); exact HO434.out) hb)
 replace HO437 := As.mk (Kd.S_below (by (with_reducible repeat (first | apply Kd.S_alloc | apply Kd.S_drewN | apply Kd.S_drew)); exact HO437.out) hb)
 replace HO440 := As.mk (Kd.S_below (by (with_reducible repeat (first | apply Kd.S_alloc | apply Kd.S_drewN | apply Kd.S_drew)); exact HO440.out) hb)
 replace HO444 := As.mk (Kd.R_below (by (with_reducible repeat (first | apply Kd.R_alloc | apply Kd.R_drewN | apply Kd.R_drew)); exact HO444.out) hb)
 replace HO448 := As.mk (Kd.S_below (by (with_reducible repeat (first | apply Kd.S_alloc | apply Kd.S_drewN | apply Kd.S_drew)); exact HO448.out) hb)
 replace HO451 := As.mk (Kd.S_below (by (with_reducible repeat (first | apply Kd.S_alloc | apply Kd.S_drewN | apply Kd.S_drew)); exact HO451.out) hb)
 replace BK424 := As.mk (blk_below (bx BK424.out) hb)
 replace BK441 := As.mk (blk_below (bx BK441.out) hb)
 replace HB := As.mk (below_step (be w) hb)
 (try clear hb)
 (try clear hb2)
 (try clear hk)
 (try clear hi)
 refine hK.out _ _ ⟨(blk_cell BK441.out 0).trans rfl, (blk_cell BK441.out 1).trans rfl, (blk_cell BK424.out 0).trans rfl, (blk_cell BK424.out 1).trans rfl⟩ (fun hHeld => ?_)
 clear hK K
 refine norm_ (a' := ?_) ?_ ?_
 rotate_left
 ·
  show Act.put _ (some 41) _ = _
  simp only [pk, i64_w, i32_w]
  rfl
 refine pure_ (i := 4) (N := some 42) (v := ?_) (a' := ?_) #[I, I, I, I, I] rfl rfl (by kernel_rfl) (fun _ _ _ h => h) (Or.inl ⟨by rfl, ?_⟩) ?_ ?_
 rotate_left; · intro w'; go_simp; with_reducible rfl
 rotate_left; · simp only [pk, i64_w, i32_w]; rfl
 refine done_ (by kernel_rfl) ?_
 obtain ⟨hcz45_0, hcz45_1, hfz45_0, hfz45_1⟩ := cl2 BK441.out
 go_upto_region 16 with (first | ((with_reducible refine gate_callee (f := 15) rfl ?_); refine goesL_ (some 45) rfl rfl Tryz.func15 (by kernel_rfl) rfl #[.agg #[.slice Ao33 t435.length co33, .slice Ao36 t438.length co36], .int .i64 1] rfl (by (try simp only [lm]); first | done | rfl | (simp only [List.length_drop, List.length_take]; rfl)) ?_; (with_reducible refine (laws_markProgram.calls _ (.slice Ao33 t435.length co33) t435 _ (.slice Ao36 t438.length co36) t438 1 t453 w _ ?side1 (Kd.S_bound HO437.out) (Kd.S_bound HO440.out) A20.out).mono ?_); (case side1 => repeat (first | (with_reducible first | exact HB.out | apply below_alloc | apply pw_below_drewN | apply below_drew1 | refine below_set ?_ GE424.out | refine below_set ?_ GE441.out) | exact HB.out)); rintro e w46 ⟨rfl, hb, hkp⟩; refine ⟨_, rfl, ?_⟩; replace BK424 := As.mk (blk_kept (bx BK424.out) hkp (fun hs_ => Or.elim hs_ (fun e_ => mkk_tyb e_ (bx BK424.out) (by decide)) (fun e_ => mkk_tyb e_ (bx BK424.out) (by decide)))); replace HO434 := As.mk (Kd.R_mono (ok' := fun k_ => some k_ ≠ (.slice Ao38 t442.length co38 : Value).ownBlock) (mkk_keptT rfl HO434.out hkp (fun k_ hs_ e_ => Or.elim hs_ (fun h_ => by replace h_ := h_.1; revert h_; (try simp only [and_imp]); intros; exact absurd e_ (by assumption)) (fun h_ => by first | exact mkk_tyr h_ (Kd.R_typed HO434.out k_ e_.symm) (by decide) | (replace h_ := h_.1; revert h_; (try simp only [and_imp]); intros; exact absurd e_ (by assumption))))) (fun k_ hk_ => by first | exact hk_ | exact hk_.2 | exact hk_.1.2 | (revert hk_; (try simp only [and_imp]); intros; assumption))); replace BK441 := As.mk (blk_kept (bx BK441.out) hkp (fun hs_ => Or.elim hs_ (fun e_ => mkk_tyb e_ (bx BK441.out) (by decide)) (fun e_ => mkk_tyb e_ (bx BK441.out) (by decide)))); replace HO444 := As.mk (Kd.R_mono (ok' := fun k_ => some k_ ≠ (.slice Ao39 t432.length co39 : Value).ownBlock) (mkk_keptT rfl HO444.out hkp (fun k_ hs_ e_ => Or.elim hs_ (fun h_ => by replace h_ := h_.1; revert h_; (try simp only [and_imp]); intros; exact absurd e_ (by assumption)) (fun h_ => by first | exact mkk_tyr h_ (Kd.R_typed HO444.out k_ e_.symm) (by decide) | (replace h_ := h_.1; revert h_; (try simp only [and_imp]); intros; exact absurd e_ (by assumption))))) (fun k_ hk_ => by first | exact hk_ | exact hk_.2 | exact hk_.1.2 | (revert hk_; (try simp only [and_imp]); intros; assumption))); replace HB := As.mk (hb); clear HO437 HO440; (try clear hb); (try clear hkp)))
 (try simp only [pk])
 go_cut [53] (fun v53 wc => ∃ (kq : Nat) (x53_20 : Bool), v53 = .bool x53_20 ∧ As (laws_FnExactUsesOf.j0 kq a1 a2 t432 t442 x53_20 l0_0 l0_1 = some r) ∧ As (kq ≤ k) ∧ As (Kd.R (Kd.int .i64) 3 wc w.heap.size (fun k_ => some k_ ≠ ((.slice Ao38 t442.length co38) : Value).ownBlock) (.slice Ao39 t432.length co39) t432) ∧ As (Kd.R (Kd.int .i64) 3 wc w.heap.size (fun k_ => some k_ ≠ ((.slice Ao39 t432.length co39) : Value).ownBlock) (.slice Ao38 t442.length co38) t442) ∧ As (wc.heap[gb424]? = some (.cells #[(.slice A0_0 l0_0.length c0_0), (.slice A0_1 l0_1.length c0_1)] 25 (0, 0))) ∧ As (Below w.heap.size w wc))
 case first =>
  have H := HC21.out
  clear HC21
  by_cases c47 : t453 < 0
  ·
   rw [if_pos c47] at H
   have c47b0 : decide (t453 < 0) = true := decide_eq_true c47
   clear c47
   (first | rw [c47b0] | (simp only [i64_w, i32_w]; rw [c47b0]) | skip)
   have H' := As.mk H
   clear H
   go_wp2
   go_meet
   case rel => exact ⟨_, (true), (by first | rfl | (simp; done) | (simp [*]; done)), H', ⟨by first | omega | exact Nat.le_refl _⟩, ⟨by (with_reducible repeat (first | apply Kd.R_alloc | apply Kd.R_drewN | apply Kd.R_drew)); exact HO434.out⟩, ⟨by (with_reducible repeat (first | apply Kd.R_alloc | apply Kd.R_drewN | apply Kd.R_drew)); exact HO444.out⟩, ⟨bx BK424.out⟩, ⟨be w⟩⟩
  rw [if_neg c47] at H
  have c47b0 : decide (t453 < 0) = false := decide_eq_false c47
  clear c47
  (first | rw [c47b0] | (simp only [i64_w, i32_w]; rw [c47b0]) | skip)
  obtain ⟨t454, A480, H⟩ := Option.bind_eq_some_iff.mp H
  try dsimp only at H
  have A48 := As.mk A480
  clear A480
  have H' := As.mk H
  clear H
  go_wp2_with (first | (go_at_call 26; (with_reducible refine (laws_eqIntS.calls k _ _ t442 _ _ t432 t454 _ ?side1 ?side2 ?side3 ?side4 A48.out).mono ?_); (case side1 => repeat (first | exact (Kd.R_reads' HO444.out).2.2 | (with_reducible refine Kd.C_alloc ?_ _) | (with_reducible refine Kd.C_drewN ?_ _) | (with_reducible refine Kd.C_drew ?_))); (case side2 => exact (Kd.R_reads' HO444.out).2.1); (case side3 => repeat (first | exact (Kd.R_reads' HO434.out).2.2 | (with_reducible refine Kd.C_alloc ?_ _) | (with_reducible refine Kd.C_drewN ?_ _) | (with_reducible refine Kd.C_drew ?_))); (case side4 => exact (Kd.R_reads' HO434.out).2.1); rintro e w' ⟨rfl, ⟨nd, rfl⟩⟩))
  go_meet
  case rel => exact ⟨_, (!t454), (by first | rfl | (simp; done) | (simp [*]; done)), H', ⟨by first | omega | exact Nat.le_refl _⟩, ⟨by (with_reducible repeat (first | apply Kd.R_alloc | apply Kd.R_drewN | apply Kd.R_drew)); exact HO434.out⟩, ⟨by (with_reducible repeat (first | apply Kd.R_alloc | apply Kd.R_drewN | apply Kd.R_drew)); exact HO444.out⟩, ⟨bx BK424.out⟩, ⟨be w⟩⟩
 case rest =>
  clear HC21
  (try clear c4); (try clear c4b0); (try clear c4b1); (try clear c7); (try clear c7b0); (try clear c16); (try clear c19); (try clear hcz23_0); (try clear hcz23_1); (try clear hcz25_0); (try clear hcz25_1); (try clear hcz30_0); (try clear hcz30_1); (try clear hcz35_0); (try clear hcz35_1); (try clear hcz45_0); (try clear hcz45_1); (try clear hfz23_0); (try clear hfz23_1); (try clear hfz25_0); (try clear hfz25_1); (try clear hfz30_0); (try clear hfz30_1); (try clear hfz35_0); (try clear hfz35_1); (try clear hfz45_0); (try clear hfz45_1)
  obtain ⟨kq, x53_20, rfl, HA, HJ20, HO_8, HO_10, BK424, HB⟩ := hcut
  cases kq with
  | zero => exact absurd HA.out (by simp [laws_FnExactUsesOf.j0])
  | succ kj20 =>
   have H := HA.out
   clear HA
   simp only [laws_FnExactUsesOf.j0] at H
   by_cases c49 : x53_20 = true
   ·
    subst c49
    rw [if_pos rfl] at H
    exact absurd H (by rw [hrt.out]; simp)
   replace c49 := Bool.eq_false_iff.mpr c49
   subst c49
   rw [if_neg (show ¬ (false = true) by decide)] at H
   obtain ⟨⟨t455, t456⟩, A500, H⟩ := Option.bind_eq_some_iff.mp H
   try dsimp only at H
   have A50 := As.mk A500
   clear A500
   obtain ⟨t457, A510, H⟩ := Option.bind_eq_some_iff.mp H
   try dsimp only at H
   have A51 := As.mk A510
   clear A510
   by_cases c52 : t457 < 0
   ·
    rw [if_pos c52] at H
    have c52b0 : decide (t457 < 0) = true := decide_eq_true c52
    clear c52
    exact absurd H (by rw [hrt.out]; simp)
   rw [if_neg c52] at H
   have c52b0 : decide (t457 < 0) = false := decide_eq_false c52
   clear c52
   by_cases c53 : t457 = t455
   rotate_left
   ·
    rw [if_neg c53] at H
    have c53b0 : (t457 == t455) = false := beq_eq_false_iff_ne.mpr c53
    have c53b1 : (t457 != t455) = true := bne_iff_ne.mpr c53
    exact absurd H (by rw [hrt.out]; simp)
   rw [if_pos c53] at H
   have c53b0 : (t457 == t455) = true := beq_iff_eq.mpr c53
   have c53b1 : (t457 != t455) = false := bne_eq_false_iff_eq.mpr c53
   clear c53
   obtain ⟨⟨t458, t461⟩, A540, H⟩ := Option.bind_eq_some_iff.mp H
   try dsimp only at H
   have A54 := As.mk A540
   clear A540
   obtain ⟨t464, A550, H⟩ := Option.bind_eq_some_iff.mp H
   try dsimp only at H
   have A55 := As.mk A550
   clear A550
   obtain ⟨t467, A560, H⟩ := Option.bind_eq_some_iff.mp H
   try dsimp only at H
   have A56 := As.mk A560
   clear A560
   by_cases c57 : t467 = true
   rotate_left
   ·
    replace c57 := Bool.eq_false_iff.mpr c57
    subst c57
    rw [if_neg (show ¬ (false = true) by decide)] at H
    exact absurd H (by rw [hrt.out]; simp)
   subst c57
   rw [if_pos rfl] at H
   obtain ⟨t468, A580, H⟩ := Option.bind_eq_some_iff.mp H
   try dsimp only at H
   have A58 := As.mk A580
   clear A580
   by_cases c59 : t468 < 0
   ·
    rw [if_pos c59] at H
    have c59b0 : decide (t468 < 0) = true := decide_eq_true c59
    clear c59
    exact absurd H (by rw [hrt.out]; simp)
   rw [if_neg c59] at H
   have c59b0 : decide (t468 < 0) = false := decide_eq_false c59
   clear c59
   by_cases c60 : t468 = t455
   rotate_left
   ·
    rw [if_neg c60] at H
    have c60b0 : (t468 == t455) = false := beq_eq_false_iff_ne.mpr c60
    have c60b1 : (t468 != t455) = true := bne_iff_ne.mpr c60
    exact absurd H (by rw [hrt.out]; simp)
   rw [if_pos c60] at H
   have c60b0 : (t468 == t455) = true := beq_iff_eq.mpr c60
   have c60b1 : (t468 != t455) = false := bne_eq_false_iff_eq.mpr c60
   clear c60
   obtain rfl := Option.some.inj H
   go_wp2_with (first | ((with_reducible refine gate_callee (f := 27) rfl ?_); refine goesL_ (some 56) rfl rfl Tryz.func27 (by kernel_rfl) rfl #[.slice Ao38 t442.length co38, .int .i64 1] rfl (by (try simp only [lm]); first | done | rfl | (simp only [List.length_drop, List.length_take]; rfl)) ?_; (with_reducible refine (laws_markIntS.calls kj20 (fun k_ => some k_ = (.slice Ao38 t442.length co38 : Value).ownBlock) (.slice Ao38 t442.length co38) t442 1 t455 t456 w _ ?side1 ?side2 A50.out).mono ?_); (case side1 => repeat (first | (with_reducible first | exact HB.out | apply below_alloc | apply pw_below_drewN | apply below_drew1 | refine below_set ?_ GE424.out) | exact HB.out)); (case side2 => exact Kd.R_tight rfl HO_10.out); rintro e w61 ⟨rfl, hy0, hb, hkp⟩; refine ⟨_, rfl, ?_⟩; replace HO_8 := As.mk (Kd.R_mono (ok' := fun k_ => some k_ ≠ (.slice Ao38 t442.length co38 : Value).ownBlock) (Kd.R_keptB (HO_8.out) hkp (fun k_ hk_ hs_ => (hk_) hs_)) (fun k_ hk_ => hk_.1)); replace BK424 := As.mk (blk_kept (bx BK424.out) hkp (fun hs_ => (fun e_ => (Kd.R_ne HO_10.out BK424.out (by decide)) e_) hs_)); replace HO_10 := As.mk (Kd.R_reok rfl hy0 (fun k_ e_ => HO_10.out.1 k_ e_)); replace HB := As.mk (hb); (try clear hb); (try clear hkp); (try clear hy0)) | ((with_reducible refine gate_callee (f := 28) rfl ?_); refine goesL_ (some 59) rfl rfl Tryz.func28 (by kernel_rfl) rfl #[.slice Ao38 t456.length co38, .int .i64 1] rfl (by (try simp only [lm]); first | done | (rw [show t456.length = t442.length from (Kd.R_reads' HO_10.out).1.symm] <;> rfl) | rfl | (simp only [List.length_drop, List.length_take]; rfl)) ?_; (with_reducible refine (laws_heldIntS.calls kj20 _ _ t456 1 t457 _ ?side1 ?side2 A51.out).mono ?_); (case side1 => repeat (first | exact (Kd.R_reads' HO_10.out).2.2 | (with_reducible refine Kd.C_alloc ?_ _) | (with_reducible refine Kd.C_drewN ?_ _) | (with_reducible refine Kd.C_drew ?_))); (case side2 => rw [show t456.length = t442.length from (Kd.R_reads' HO_10.out).1.symm]; exact (Kd.R_reads' HO_10.out).2.1); rintro e w' ⟨rfl, ⟨nd, rfl⟩⟩; refine ⟨_, rfl, ?_⟩; obtain ⟨hcz62_0, hcz62_1, hfz62_0, hfz62_1⟩ := cl2 BK424.out) | ((with_reducible refine gate_callee (f := 11) rfl ?_); refine goesL_ (some 66) rfl rfl Tryz.func11 (by kernel_rfl) rfl #[.agg #[.slice A0_0 l0_0.length c0_0, .slice A0_1 l0_1.length c0_1]] rfl (by (try simp only [lm]); first | done | rfl | (simp only [List.length_drop, List.length_take]; rfl)) ?_; (with_reducible refine (laws_toProgram.calls kj20 _ _ l0_0 _ _ l0_1 t458 t461 _ ?side1 ?side2 ?side3 ?side4 A54.out).mono ?_); (case side1 => exact Kd.C_below HR0_0.out (be w)); (case side2 => exact HC0_0.out); (case side3 => exact Kd.C_below HR0_1.out (be w)); (case side4 => exact HC0_1.out); rintro e w63 ⟨v459, v462, rfl, ho0, ho1, hb⟩; refine ⟨_, rfl, ?_⟩; have HO460 := As.mk (Kd.S_lower (Kd.S_new' (Kd.S_new' ho0 (Kd.R_lt (by (with_reducible repeat (first | apply Kd.R_alloc | apply Kd.R_drewN | apply Kd.R_drew)); exact HO_8.out))) (Kd.R_lt (by (with_reducible repeat (first | apply Kd.R_alloc | apply Kd.R_drewN | apply Kd.R_drew)); exact HO_10.out))) (below_size (be w))); replace HO_8 := As.mk (Kd.R_below (by (with_reducible repeat (first | apply Kd.R_alloc | apply Kd.R_drewN | apply Kd.R_drew)); exact HO_8.out) hb); replace HO_10 := As.mk (Kd.R_below (by (with_reducible repeat (first | apply Kd.R_alloc | apply Kd.R_drewN | apply Kd.R_drew)); exact HO_10.out) hb); have HO463 := As.mk (Kd.S_lower ho1 (below_size (be w))); replace HB := As.mk (below_step (be w) hb); (try clear hb); (try clear hb2); (try clear hk); (try clear hi); (try clear ho0); (try clear ho1); obtain ⟨Ao64, co64, eo64⟩ := Kd.S_slice HO460.out; subst eo64; obtain ⟨Ao65, co65, eo65⟩ := Kd.S_slice HO463.out; subst eo65) | ((with_reducible refine gate_callee (f := 30) rfl ?_); refine goesL_ (some 69) rfl rfl Tryz.func30 (by kernel_rfl) rfl #[.agg #[.slice Ao64 t458.length co64, .slice Ao65 t461.length co65], .int .i64 a1, .string a2] rfl (by (try simp only [lm]); first | done | rfl | (simp only [List.length_drop, List.length_take]; rfl)) ?_; (with_reducible refine (impl_UsesOf.calls kj20 _ _ t458 _ _ t461 a1 a2 t464 _ ?side1 ?side2 ?side3 ?side4 A55.out).mono ?_); (case side1 => repeat (first | exact (Kd.S_reads' HO460.out).2.2 | (with_reducible refine Kd.C_alloc ?_ _) | (with_reducible refine Kd.C_drewN ?_ _) | (with_reducible refine Kd.C_drew ?_))); (case side2 => exact (Kd.S_reads' HO460.out).2.1); (case side3 => repeat (first | exact (Kd.S_reads' HO463.out).2.2 | (with_reducible refine Kd.C_alloc ?_ _) | (with_reducible refine Kd.C_drewN ?_ _) | (with_reducible refine Kd.C_drew ?_))); (case side4 => exact (Kd.S_reads' HO463.out).2.1); rintro e w66 ⟨v465, rfl, ho0, hb⟩; refine ⟨_, rfl, ?_⟩; replace HO460 := As.mk (Kd.S_elder' (by (with_reducible repeat (first | apply Kd.S_alloc | apply Kd.S_drewN | apply Kd.S_drew)); exact HO460.out) (Kd.R_base ho0) hb); replace HO463 := As.mk (Kd.S_below (by (with_reducible repeat (first | apply Kd.S_alloc | apply Kd.S_drewN | apply Kd.S_drew)); exact HO463.out) hb); have HO466 := As.mk (Kd.R_lower (Kd.R_new' (Kd.R_new' ho0 (Kd.R_lt (by (with_reducible repeat (first | apply Kd.R_alloc | apply Kd.R_drewN | apply Kd.R_drew)); exact HO_8.out))) (Kd.R_lt (by (with_reducible repeat (first | apply Kd.R_alloc | apply Kd.R_drewN | apply Kd.R_drew)); exact HO_10.out))) (below_size (be w))); replace HO_8 := As.mk (Kd.R_elder' (by (with_reducible repeat (first | apply Kd.R_alloc | apply Kd.R_drewN | apply Kd.R_drew)); exact HO_8.out) (Kd.R_base ho0) hb); replace HO_10 := As.mk (Kd.R_elder' (by (with_reducible repeat (first | apply Kd.R_alloc | apply Kd.R_drewN | apply Kd.R_drew)); exact HO_10.out) (Kd.R_base ho0) hb); replace HB := As.mk (below_step (be w) hb); (try clear hb); (try clear hb2); (try clear hk); (try clear hi); (try clear ho0); obtain ⟨Ao67, co67, eo67⟩ := Kd.R_slice HO466.out; subst eo67) | ((with_reducible refine gate_callee (f := 26) rfl ?_); refine goesL_ (some 72) rfl rfl Tryz.func26 (by kernel_rfl) rfl #[.slice Ao67 t464.length co67, .slice Ao39 t432.length co39] rfl (by (try simp only [lm]); first | done | rfl | (simp only [List.length_drop, List.length_take]; rfl)) ?_; (with_reducible refine (laws_eqIntS.calls kj20 _ _ t464 _ _ t432 true _ ?side1 ?side2 ?side3 ?side4 A56.out).mono ?_); (case side1 => repeat (first | exact (Kd.R_reads' HO466.out).2.2 | (with_reducible refine Kd.C_alloc ?_ _) | (with_reducible refine Kd.C_drewN ?_ _) | (with_reducible refine Kd.C_drew ?_))); (case side2 => exact (Kd.R_reads' HO466.out).2.1); (case side3 => repeat (first | exact (Kd.R_reads' HO_8.out).2.2 | (with_reducible refine Kd.C_alloc ?_ _) | (with_reducible refine Kd.C_drewN ?_ _) | (with_reducible refine Kd.C_drew ?_))); (case side4 => exact (Kd.R_reads' HO_8.out).2.1); rintro e w' ⟨rfl, ⟨nd, rfl⟩⟩; refine ⟨_, rfl, ?_⟩) | ((with_reducible refine gate_callee (f := 28) rfl ?_); refine goesL_ (some 76) rfl rfl Tryz.func28 (by kernel_rfl) rfl #[.slice Ao38 t456.length co38, .int .i64 1] rfl (by (try simp only [lm]); first | done | (rw [show t456.length = t442.length from (Kd.R_reads' HO_10.out).1.symm] <;> rfl) | rfl | (simp only [List.length_drop, List.length_take]; rfl)) ?_; (with_reducible refine (laws_heldIntS.calls kj20 _ _ t456 1 t468 _ ?side1 ?side2 A58.out).mono ?_); (case side1 => repeat (first | exact (Kd.R_reads' HO_10.out).2.2 | (with_reducible refine Kd.C_alloc ?_ _) | (with_reducible refine Kd.C_drewN ?_ _) | (with_reducible refine Kd.C_drew ?_))); (case side2 => rw [show t456.length = t442.length from (Kd.R_reads' HO_10.out).1.symm]; exact (Kd.R_reads' HO_10.out).2.1); rintro e w' ⟨rfl, ⟨nd, rfl⟩⟩; refine ⟨_, rfl, ?_⟩))
   go_ret
   exact ⟨ez, be w⟩
end Go.Proofs.YtcoapbnbakmkoaaGreatDoor.PFnExactUsesOf
