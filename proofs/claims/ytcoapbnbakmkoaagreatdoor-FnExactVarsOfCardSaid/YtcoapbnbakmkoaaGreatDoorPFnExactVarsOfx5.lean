/- Written by a program of this session (a turned copy of the kit's print): a contract for each Go function. No condition beside those in each statement. -/
import Derived.Test.YtcoapbnbakmkoaaGreatDoorPFnExactVarsOfx0
import Derived.Test.YtcoapbnbakmkoaaGreatDoorPFnExactVarsOfx1
import Derived.Test.YtcoapbnbakmkoaaGreatDoorPFnExactVarsOfx4
namespace Go.Proofs.YtcoapbnbakmkoaaGreatDoor.PFnExactVarsOf
open Go.RowKit Go.Proofs.YtcoapbnbakmkoaaGreatDoor.Given Go.Proofs.YtcoapbnbakmkoaaGreatDoorW.PrintWords Go.Proofs.YtcoapbnbakmkoaaGreatDoorW.PrintLast Go.Proofs.YtcoapbnbakmkoaaGreatDoorW.PrintMore
attribute [local go_sem] max2_int min2_int max_two min_two max_three min_three max_four min_four   -- for this text's walks alone
set_option linter.unusedVariables false
set_option linter.unusedSimpArgs false

/-! ### spec_Under: function 24 -/
def spec_Under.l0 : Nat → List Int → List Bool → Int → Option (List Int)
 | 0, _, _, _ => none
 | k + 1, x5, x6, x7 => if x7 < (x6.length : Int) then (if 0 ≤ x7 then (if rdOf false x6 x7 = true then (if x5.length < 17592186044416 then (spec_Under.l0 k (x5 ++ [x7]) x6 (wrap64 (x7 + 1))) else (none)) else (spec_Under.l0 k x5 x6 (wrap64 (x7 + 1)))) else (none)) else (some x5)
def spec_Under.f (k : Nat) (l0_0 : List (S62)) (l0_1 : List (S56)) (a1 : Int) : Option (List Int) := (some (([] : List Int) : List Int)).bind fun y180 => ((spec_DeepOf.f k l0_0 a1).bind fun t183 => (if t183 = 0 then (some y180) else (if 0 ≤ (l0_0.length : Int) then (if ((l0_0.length : Int) : Int).toNat ≤ 281474976710656 then ((spec_l04Mark.f k l0_0 a1 (List.replicate ((l0_0.length : Int) : Int).toNat false)).bind fun t187 => (spec_Under.l0 k y180 t187 0)) else (none)) else (none))))
theorem spec_Under.mono_l : ∀ k, (∀ y0 y1 y2, LeO (spec_Under.l0 k y0 y1 y2) (spec_Under.l0 (k + 1) y0 y1 y2))
 | 0 => fun _ _ _ r h => by simp [spec_Under.l0] at h
 | k + 1 => by
  have ih0 := spec_Under.mono_l k
  ·
   intro y0 y1 y2
   unfold spec_Under.l0
   with_reducible repeat' first | exact ih0 _ _ _ | exact spec_DeepOf.mono _ _ _ | exact spec_l04Mark.mono _ _ _ _ | exact LeO.refl _ | exact LeO.none _ | refine LeO.ite ?_ ?_ | refine LeO.bind ?_ (fun _ => ?_)
theorem spec_Under.mono : ∀ a0 a1 a2 k, LeO (spec_Under.f k a0 a1 a2) (spec_Under.f (k + 1) a0 a1 a2) := by
 intro a0 a1 a2 k
 have ih0 := spec_Under.mono_l k
 unfold spec_Under.f
 with_reducible repeat' first | exact ih0 _ _ _ | exact spec_DeepOf.mono _ _ _ | exact spec_l04Mark.mono _ _ _ _ | exact LeO.refl _ | exact LeO.none _ | refine LeO.ite ?_ ?_ | refine LeO.bind ?_ (fun _ => ?_)
set_option maxHeartbeats 8000000 in
set_option maxRecDepth 100000 in
theorem spec_Under.calls (k : Nat) (A0_0 : Option Addr) (c0_0 : Nat) (l0_0 : List (S62)) (A0_1 : Option Addr) (c0_1 : Nat) (l0_1 : List (S56)) (a1 : Int) (r : List Int) (w : World) (hr0_0 : Kd.C k62 w A0_0 l0_0.length l0_0) (hc0_0 : l0_0.length ≤ c0_0) (hr0_1 : Kd.C k56 w A0_1 l0_1.length l0_1) (hc0_1 : l0_1.length ≤ c0_1) (h : spec_Under.f k l0_0 l0_1 a1 = some r) :
  Calls Tryz.prog 24 #[.agg #[.slice A0_0 l0_0.length c0_0, .slice A0_1 l0_1.length c0_1], .int .i64 a1] w fun e w' => ∃ v0_ : Value, e = .returned (v0_) ∧ Kd.R (Kd.int .i64) 3 w' w.heap.size (fun _ => True) v0_ r ∧ Below w.heap.size w w' := by
 have hu32 := Tryz.underlying32
 have HR0_0 := As.mk hr0_0
 have HC0_0 := As.mk hc0_0
 clear hr0_0 hc0_0
 have HR0_1 := As.mk hr0_1
 have HC0_1 := As.mk hc0_1
 clear hr0_1 hc0_1
 have HB := As.mk (Below.refl w.heap.size w)
 have H : ((some (([] : List Int) : List Int)).bind fun y180 => ((spec_DeepOf.f k l0_0 a1).bind fun t183 => (if t183 = 0 then (some y180) else (if 0 ≤ (l0_0.length : Int) then (if ((l0_0.length : Int) : Int).toNat ≤ 281474976710656 then ((spec_l04Mark.f k l0_0 a1 (List.replicate ((l0_0.length : Int) : Int).toNat false)).bind fun t187 => (spec_Under.l0 k y180 t187 0)) else (none)) else (none))))) = some r := h
 clear h
 obtain ⟨y180, hy180⟩ : ∃ y_ : List Int, y_ = (([] : List Int)) := ⟨_, rfl⟩
 replace H : ((spec_DeepOf.f k l0_0 a1).bind fun t183 => (if t183 = 0 then (some y180) else (if 0 ≤ (l0_0.length : Int) then (if ((l0_0.length : Int) : Int).toNat ≤ 281474976710656 then ((spec_l04Mark.f k l0_0 a1 (List.replicate ((l0_0.length : Int) : Int).toNat false)).bind fun t187 => (spec_Under.l0 k y180 t187 0)) else (none)) else (none)))) = some r := by first | (rw [hy180]; with_reducible exact H) | (have H2_ := (Option.bind_some _ _).symm.trans H; rw [hy180]; with_reducible exact H2_) | (have H2_ := (Option.bind_some _ _).symm.trans H; with_reducible exact H2_) | with_reducible exact H | (rw [hy180]; exact H) | exact H
 have Ny180 := As.mk hy180
 clear hy180
 obtain ⟨t183, A30, H⟩ := Option.bind_eq_some_iff.mp H
 try dsimp only at H
 have A3 := As.mk A30
 clear A30
 by_cases c4 : t183 = 0
 ·
  rw [if_pos c4] at H
  have c4b0 : (t183 == 0) = true := beq_iff_eq.mpr c4
  have c4b1 : (t183 != 0) = false := bne_eq_false_iff_eq.mpr c4
  clear c4
  obtain rfl := Option.some.inj H
  go_enter Tryz.func24, Tryz.ntmps24
  go_wp2_with (first | ((with_reducible refine gate_dst (N := 2) rfl ?_); refine box_event ?hg (N := 2) ?hd (cs := #[.slice A0_0 l0_0.length c0_0, .slice A0_1 l0_1.length c0_1]) (t := 32) ?hr ?_; (case hd => rfl); (case hg => rfl); (case hr => first | (go_simp; done) | (go_simp; rfl)); intro gb179 hg w5 hbox hb; have BK179 := As.mk (hbox); have GW179 := As.mk (gs w hg); have GE179 := As.mk (gs w hg); replace HB := As.mk (below_step (be w) hb); clear hb hbox hg) | ((with_reducible refine gate_dst (N := 8) rfl ?_); refine Kd.R_lit (Kd.int .i64) _ 3 ?hg (N := 8) ?hd (xs := ([] : List Int)) (inner := []) (ok := fun _ => True) (okp := fun _ => True) ?hr ?hp (fun _ hk => hk) trivial (Below.refl _ _) (Nat.le_refl _) (by simp) ?_; (case hd => rfl); (case hg => rfl); (case hr => first | (go_simp; done) | (go_simp; rfl)); (case hp => exact (Reps.none _ _)); intro v181 w6 ho7 hb hg_ hnew_; clear hg_ hnew_; (first | rw [← Ny180.out] at ho7 | (simp only [Int.reduceToNat] at ho7; rw [← Ny180.out] at ho7)); have HO182 := As.mk (Kd.R_lower ho7 (below_size (be w))); replace BK179 := As.mk (blk_below (bx BK179.out) hb); replace HB := As.mk (below_step (be w) hb); clear hb ho7; obtain ⟨hcz8_0, hcz8_1, hfz8_0, hfz8_1⟩ := cl2 BK179.out) | ((with_reducible refine gate_callee (f := 43) rfl ?_); refine goesL_ (some 12) rfl rfl Tryz.func43 (by kernel_rfl) rfl #[.slice A0_0 l0_0.length c0_0, .int .i64 a1] rfl (by (try simp only [lm]); first | done | rfl | (simp only [List.length_drop, List.length_take]; rfl)) ?_; (with_reducible refine (spec_DeepOf.calls k _ _ l0_0 a1 t183 _ ?side1 ?side2 A3.out).mono ?_); (case side1 => exact Kd.C_below HR0_0.out (be w)); (case side2 => exact HC0_0.out); rintro e w9 ⟨rfl, hb⟩; refine ⟨_, rfl, ?_⟩; replace HO182 := As.mk (Kd.R_below (by (with_reducible repeat (first | apply Kd.R_alloc | apply Kd.R_drewN | apply Kd.R_drew)); exact HO182.out) hb); replace HB := As.mk (below_step (be w) hb); (try clear hb); (try clear hb2); (try clear hk); (try clear hi)))
  go_ret
  exact ⟨_, ez, by (with_reducible repeat (first | apply Kd.R_alloc | apply Kd.R_drewN | apply Kd.R_drew)); exact HO182.out, be w⟩
 rw [if_neg c4] at H
 have c4b0 : (t183 == 0) = false := beq_eq_false_iff_ne.mpr c4
 have c4b1 : (t183 != 0) = true := bne_iff_ne.mpr c4
 by_cases c10 : 0 ≤ (l0_0.length : Int)
 rotate_left; · rw [if_neg c10] at H; exact absurd H (by simp)

 rw [if_pos c10] at H
 have c10b0 := eq_true c10
 have c10b1 : decide (0 ≤ (l0_0.length : Int)) = true := decide_eq_true c10
 clear c10
 by_cases c11 : ((l0_0.length : Int) : Int).toNat ≤ 281474976710656
 rotate_left; · rw [if_neg c11] at H; exact absurd H (by simp)
 rw [if_pos c11] at H
 have c11b0 := eq_true c11
 have c11b1 : decide (((l0_0.length : Int) : Int).toNat ≤ 281474976710656) = true := decide_eq_true c11
 clear c11
 obtain ⟨y184, hy184⟩ : ∃ y_ : List Bool, y_ = (List.replicate ((l0_0.length : Int) : Int).toNat false) := ⟨_, rfl⟩
 replace H : ((spec_l04Mark.f k l0_0 a1 y184).bind fun t187 => (spec_Under.l0 k y180 t187 0)) = some r := by first | (rw [hy184]; with_reducible exact H) | (have H2_ := (Option.bind_some _ _).symm.trans H; rw [hy184]; with_reducible exact H2_) | (have H2_ := (Option.bind_some _ _).symm.trans H; with_reducible exact H2_) | with_reducible exact H | (rw [hy184]; exact H) | exact H
 have Ny184 := As.mk hy184
 clear hy184
 obtain ⟨t187, A120, H⟩ := Option.bind_eq_some_iff.mp H
 try dsimp only at H
 have A12 := As.mk A120
 clear A120
 have H' := As.mk H
 clear H
 go_enter Tryz.func24, Tryz.ntmps24
 go_wp2_with (first | ((with_reducible refine gate_dst (N := 2) rfl ?_); refine box_event ?hg (N := 2) ?hd (cs := #[.slice A0_0 l0_0.length c0_0, .slice A0_1 l0_1.length c0_1]) (t := 32) ?hr ?_; (case hd => rfl); (case hg => rfl); (case hr => first | (go_simp; done) | (go_simp; rfl)); intro gb179 hg w13 hbox hb; have BK179 := As.mk (hbox); have GW179 := As.mk (gs w hg); have GE179 := As.mk (gs w hg); replace HB := As.mk (below_step (be w) hb); clear hb hbox hg) | ((with_reducible refine gate_dst (N := 8) rfl ?_); refine Kd.R_lit (Kd.int .i64) _ 3 ?hg (N := 8) ?hd (xs := ([] : List Int)) (inner := []) (ok := fun _ => True) (okp := fun _ => True) ?hr ?hp (fun _ hk => hk) trivial (Below.refl _ _) (Nat.le_refl _) (by simp) ?_; (case hd => rfl); (case hg => rfl); (case hr => first | (go_simp; done) | (go_simp; rfl)); (case hp => exact (Reps.none _ _)); intro v181 w14 ho15 hb hg_ hnew_; clear hg_ hnew_; (first | rw [← Ny180.out] at ho15 | (simp only [Int.reduceToNat] at ho15; rw [← Ny180.out] at ho15)); have HO182 := As.mk (Kd.R_lower ho15 (below_size (be w))); replace BK179 := As.mk (blk_below (bx BK179.out) hb); replace HB := As.mk (below_step (be w) hb); clear hb ho15; obtain ⟨hcz16_0, hcz16_1, hfz16_0, hfz16_1⟩ := cl2 BK179.out) | ((with_reducible refine gate_callee (f := 43) rfl ?_); refine goesL_ (some 12) rfl rfl Tryz.func43 (by kernel_rfl) rfl #[.slice A0_0 l0_0.length c0_0, .int .i64 a1] rfl (by (try simp only [lm]); first | done | rfl | (simp only [List.length_drop, List.length_take]; rfl)) ?_; (with_reducible refine (spec_DeepOf.calls k _ _ l0_0 a1 t183 _ ?side1 ?side2 A3.out).mono ?_); (case side1 => exact Kd.C_below HR0_0.out (be w)); (case side2 => exact HC0_0.out); rintro e w17 ⟨rfl, hb⟩; refine ⟨_, rfl, ?_⟩; replace HO182 := As.mk (Kd.R_below (by (with_reducible repeat (first | apply Kd.R_alloc | apply Kd.R_drewN | apply Kd.R_drew)); exact HO182.out) hb); replace BK179 := As.mk (blk_below (bx BK179.out) hb); replace HB := As.mk (below_step (be w) hb); (try clear hb); (try clear hb2); (try clear hk); (try clear hi); obtain ⟨hcz18_0, hcz18_1, hfz18_0, hfz18_1⟩ := cl2 BK179.out) | ((with_reducible refine gate_dst (N := 18) rfl ?_); refine Kd.R_make Kd.bool _ 4 rfl (N := 18) rfl 76 _ _ rfl (l0_0.length : Int) rfl rfl Tryz.underlying76 (.bool false) 1 info4 rfl (by decide) (by omega) false (ok := fun _ => True) (okp := fun _ => True) rfl (fun _ hk => hk) trivial (of_decide_eq_true (by first | (with_reducible assumption) | assumption)) (Nat.le_trans (Nat.mul_le_mul_right _ (of_decide_eq_true (by first | (with_reducible assumption) | assumption) : (l0_0.length : Int).toNat ≤ 281474976710656)) (by omega)) (Below.refl _ _) (Nat.le_refl _) ?_; intro v185 w19 ho20 hb hg_ hnew_; clear hg_ hnew_; (first | rw [← Ny184.out] at ho20 | (simp only [Int.reduceToNat] at ho20; rw [← Ny184.out] at ho20)); replace HO182 := As.mk (Kd.R_below (by (with_reducible repeat (first | apply Kd.R_alloc | apply Kd.R_drewN | apply Kd.R_drew)); exact HO182.out) hb); have HO186 := As.mk (Kd.R_lower ho20 (below_size (be w))); replace BK179 := As.mk (blk_below (bx BK179.out) hb); replace HB := As.mk (below_step (be w) hb); clear hb ho20; obtain ⟨hcz21_0, hcz21_1, hfz21_0, hfz21_1⟩ := cl2 BK179.out; obtain ⟨Ao22, co22, eo22⟩ := Kd.R_slice HO186.out; subst eo22) | ((with_reducible refine gate_callee (f := 58) rfl ?_); refine goesL_ (some 23) rfl rfl Tryz.func58 (by kernel_rfl) rfl #[.slice A0_0 l0_0.length c0_0, .int .i64 a1, .slice Ao22 y184.length co22] rfl (by (try simp only [lm]); first | done | rfl | (simp only [List.length_drop, List.length_take]; rfl)) ?_; (with_reducible refine (spec_l04Mark.calls k _ _ l0_0 a1 (fun k_ => some k_ = (.slice Ao22 y184.length co22 : Value).ownBlock) (.slice Ao22 y184.length co22) y184 t187 w _ ?side1 ?side2 ?side3 ?side4 A12.out).mono ?_); (case side1 => repeat (first | (with_reducible first | exact HB.out | apply below_alloc | apply pw_below_drewN | apply below_drew1 | refine below_set ?_ GE179.out) | exact HB.out)); (case side2 => exact Kd.C_kept_came k62_heap HR0_0.out (be w) (fun k_ hs_ => (fun e_ => Kd.R_base HO186.out k_ e_.symm) hs_)); (case side3 => exact HC0_0.out); (case side4 => exact Kd.R_tight rfl HO186.out); rintro e w23 ⟨rfl, hy0, hb, hkp⟩; refine ⟨_, rfl, ?_⟩; replace BK179 := As.mk (blk_kept (bx BK179.out) hkp (fun hs_ => (fun e_ => (Kd.R_ne HO186.out BK179.out (by decide)) e_) hs_)); replace HO182 := As.mk (Kd.R_mono (ok' := fun k_ => True) (Kd.R_keptB ((Kd.R_apart' HO182.out (Kd.R_typed HO186.out) (by decide))) hkp (fun k_ hk_ hs_ => (hk_.2) hs_)) (fun k_ hk_ => trivial)); replace HO186 := As.mk (Kd.R_reok rfl hy0 (fun k_ e_ => HO186.out.1 k_ e_)); replace HB := As.mk (hb); (try clear hb); (try clear hkp); (try clear hy0)))
 (try simp only [pk])
 go_loopg [5, 7] k (fun kq v5 v7 w' => ∃ (x5_1 : List Int) (x7_1 : Int), v7 = .int .i64 x7_1 ∧ As (spec_Under.l0 kq x5_1 t187 x7_1 = some r) ∧ As (kq ≤ k) ∧ As (Kd.R (Kd.int .i64) 3 w' w.heap.size (fun _ => True) v5 x5_1) ∧ As (Kd.R Kd.bool 4 w' w.heap.size (fun _ => True) (.slice Ao22 y184.length co22) t187) ∧ As (w'.heap[gb179]? = some (.cells #[(.slice A0_0 l0_0.length c0_0), (.slice A0_1 l0_1.length c0_1)] 32 (0, 0))) ∧ As (Below w.heap.size w w'))
 case atStart => exact ⟨(y180), (0), (by first | rfl | (simp; done) | (simp [*]; done)), H', ⟨Nat.le_refl _⟩, ⟨by (with_reducible repeat (first | apply Kd.R_alloc | apply Kd.R_drewN | apply Kd.R_drew)); exact HO182.out⟩, ⟨by (with_reducible repeat (first | apply Kd.R_alloc | apply Kd.R_drewN | apply Kd.R_drew)); exact HO186.out⟩, ⟨bx BK179.out⟩, ⟨be w⟩⟩
 case round =>
  clear H'
  (try clear c4); (try clear c4b0); (try clear c4b1); (try clear c10); (try clear c10b0); (try clear c10b1); (try clear c11); (try clear c11b0); (try clear c11b1); (try clear hcz16_0); (try clear hcz16_1); (try clear hcz18_0); (try clear hcz18_1); (try clear hcz21_0); (try clear hcz21_1); (try clear hfz16_0); (try clear hfz16_1); (try clear hfz18_0); (try clear hfz18_1); (try clear hfz21_0); (try clear hfz21_1)
  obtain ⟨x5_1, x7_1, rfl, HA, HK1, HO_5, HO_6, BK179, HB⟩ := hrel
  have hl6_1 := (Kd.R_reads' HO_6.out).1
  rw [hl6_1] at HO_6
  (try simp only [hl6_1])
  (try simp only [hl6_1] at BK179)
  (try simp only [hl6_1] at HO_5)
  cases gk with
  | zero => exact absurd HA.out (by simp [spec_Under.l0])
  | succ k1 =>
   have H := HA.out
   clear HA
   simp only [spec_Under.l0] at H
   by_cases c24 : x7_1 < (t187.length : Int)
   rotate_left
   ·
    rw [if_neg c24] at H
    have c24b0 : decide (x7_1 < (t187.length : Int)) = false := decide_eq_false c24
    clear c24
    obtain rfl := Option.some.inj H
    go_wp2
    go_ret
    exact ⟨_, ez, by (with_reducible repeat (first | apply Kd.R_alloc | apply Kd.R_drewN | apply Kd.R_drew)); exact HO_5.out, be w⟩
   rw [if_pos c24] at H
   have c24b0 : decide (x7_1 < (t187.length : Int)) = true := decide_eq_true c24
   clear c24
   by_cases c25 : 0 ≤ x7_1
   rotate_left; · rw [if_neg c25] at H; exact absurd H (by simp)
   rw [if_pos c25] at H
   have c25b0 : decide (0 ≤ x7_1) = true := decide_eq_true c25
   clear c25
   obtain ⟨bq26, hbq26⟩ : ∃ b_ : Bool, b_ = (rdOf false t187 x7_1) := ⟨_, rfl⟩
   replace H : (if bq26 = true then (if x5_1.length < 17592186044416 then (spec_Under.l0 k1 (x5_1 ++ [x7_1]) t187 (wrap64 (x7_1 + 1))) else (none)) else (spec_Under.l0 k1 x5_1 t187 (wrap64 (x7_1 + 1)))) = some r := by rw [← hbq26] at H; exact H
   have Nbq26 := As.mk hbq26
   clear hbq26
   by_cases c27 : bq26 = true
   rotate_left
   ·
    replace c27 := Bool.eq_false_iff.mpr c27
    subst c27
    rw [if_neg (show ¬ (false = true) by decide)] at H
    have H' := As.mk H
    clear H
    have p188 : 0 ≤ (x7_1 : Int) := od
    have q188 : x7_1 < (t187.length : Int) := od
    obtain ⟨ad188, e188, hx188_0⟩ := Kd.at_bool (Kd.R_reads' HO_6.out).2.2 x7_1 p188 q188
    (try rw [← Nbq26.out] at hx188_0)
    cases e188
    replace p188 := eq_true p188
    replace q188 := eq_true q188
    go_wp2
    (try simp only [← hl6_1])
    go_roundg k1
    case measure => have := HK1.out; omega
    case rel => exact ⟨(x5_1), (wrap64 (x7_1 + 1)), (by first | rfl | (simp; done) | (simp [*]; done)), H', ⟨by have := HK1.out; omega⟩, ⟨by (try simp only [hl6_1]); (with_reducible repeat (first | apply Kd.R_alloc | apply Kd.R_drewN | apply Kd.R_drew)); exact HO_5.out⟩, ⟨by (try simp only [hl6_1]); (with_reducible repeat (first | apply Kd.R_alloc | apply Kd.R_drewN | apply Kd.R_drew)); exact HO_6.out⟩, ⟨by (try simp only [hl6_1]); exact bx BK179.out⟩, ⟨be w⟩⟩
   subst c27
   rw [if_pos rfl] at H
   by_cases c28 : x5_1.length < 17592186044416
   rotate_left; · rw [if_neg c28] at H; exact absurd H (by simp)
   rw [if_pos c28] at H
   have LMc28 := As.mk c28
   clear c28
   obtain ⟨y189, hy189⟩ : ∃ y_ : List Int, y_ = (x5_1 ++ [x7_1]) := ⟨_, rfl⟩
   replace H : (spec_Under.l0 k1 y189 t187 (wrap64 (x7_1 + 1))) = some r := by first | (rw [hy189]; with_reducible exact H) | (have H2_ := (Option.bind_some _ _).symm.trans H; rw [hy189]; with_reducible exact H2_) | (have H2_ := (Option.bind_some _ _).symm.trans H; with_reducible exact H2_) | with_reducible exact H | (rw [hy189]; exact H) | exact H
   have Ny189 := As.mk hy189
   clear hy189
   have H' := As.mk H
   clear H
   have p188 : 0 ≤ (x7_1 : Int) := od
   have q188 : x7_1 < (t187.length : Int) := od
   obtain ⟨ad188, e188, hx188_0⟩ := Kd.at_bool (Kd.R_reads' HO_6.out).2.2 x7_1 p188 q188
   (try rw [← Nbq26.out] at hx188_0)
   cases e188
   replace p188 := eq_true p188
   replace q188 := eq_true q188
   go_wp2_with (first | ((with_reducible refine gate_builtin (b := .append) (xs := #[.tmp 34, .tmp 36]) rfl ?_); at_builtin; refine Kd.R_append (Kd.int .i64) (w0 := w) w.heap.size rfl (.tmp 34) (.tmp 36) 45 3 (.int .i64 0) 8 rfl Tryz.underlying45 info3 rfl (by decide) (by omega) u5 x5_1 x7_1 [.int .i64 x7_1] (fun _ => True) (fun _ => False) rfl rfl ?aP (fun _ hk => hk.elim) ?aF ?aO ?aB ?aS ?aL ?_; (case aP => exact rfl); (case aB => exact (be w)); (case aF => exact (fun _ _ => trivial)); (case aO => exact (by (with_reducible repeat (first | apply Kd.R_alloc | apply Kd.R_drewN | apply Kd.R_drew)); exact HO_5.out)); (case aS => exact (below_size (be w))); (case aL => have := LMc28.out; omega); intro v190 w29 ho hb hg hat; rw [← Ny189.out] at ho; replace HO_6 := As.mk (Kd.R_over' (by (with_reducible repeat (first | apply Kd.R_alloc | apply Kd.R_drewN | apply Kd.R_drew)); exact HO_6.out) (Kd.R_typed (by (with_reducible repeat (first | apply Kd.R_alloc | apply Kd.R_drewN | apply Kd.R_drew)); exact HO_5.out)) (by decide) hg); replace BK179 := As.mk (blk_grown (g := gb179) (o := .cells #[.slice A0_0 l0_0.length c0_0, .slice A0_1 l0_1.length c0_1] 32 (0, 0)) (bx BK179.out) hg (Kd.R_ne HO_5.out BK179.out (by decide))); replace HB := As.mk (hb); have HO191 := As.mk (ho); clear HO_5; clear ho hb hg hat))
   (try simp only [← hl6_1])
   go_roundg k1
   case measure => have := HK1.out; omega
   case rel => exact ⟨(y189), (wrap64 (x7_1 + 1)), (by first | rfl | (simp; done) | (simp [*]; done)), H', ⟨by have := HK1.out; omega⟩, ⟨by (try simp only [hl6_1]); (with_reducible repeat (first | apply Kd.R_alloc | apply Kd.R_drewN | apply Kd.R_drew)); exact HO191.out⟩, ⟨by (try simp only [hl6_1]); (with_reducible repeat (first | apply Kd.R_alloc | apply Kd.R_drewN | apply Kd.R_drew)); exact HO_6.out⟩, ⟨by (try simp only [hl6_1]); exact bx BK179.out⟩, ⟨be w⟩⟩
/-! ### spec_VarsOf: function 10 -/
mutual
def spec_VarsOf.l0 : Nat → List (S60) → Int → List (S62) → List (S56) → ByteArray → List (S58) → Int → Int → Int → Option ((List (S60)))
 | 0, _, _, _, _, _, _, _, _, _ => none
 | k + 1, x5, x7, x193000, x193001, x199000, x199001, x199002, x199003, x199004 => if x7 < (x199001.length : Int) then (if 0 ≤ x7 then (if x5.length < 4398046511104 then (spec_VarsOf.l0 k (x5 ++ [(⟨(rd_T58 x199001 x7).f0, (rd_T58 x199001 x7).f1, (-1)⟩ : S60)]) (wrap64 (x7 + 1)) x193000 x193001 x199000 x199001 x199002 x199003 x199004) else (none)) else (none)) else ((spec_Under.f k x193000 x193001 x199003).bind fun t204 => (spec_VarsOf.l1 k x5 t204 0 x193000 x193001))
def spec_VarsOf.l1 : Nat → List (S60) → List Int → Int → List (S62) → List (S56) → Option ((List (S60)))
 | 0, _, _, _, _, _ => none
 | k + 1, x5, x8, x9, x193000, x193001 => if x9 < (x8.length : Int) then (if 0 ≤ x9 then (if 0 ≤ (rd x8 x9) then (if (rd x8 x9) < (x193000.length : Int) then (if ((rd_T62 x193000 (rd x8 x9)).f0) = 13 then (if x5.length < 4398046511104 then (spec_VarsOf.l1 k (x5 ++ [(⟨(rd_T62 x193000 (rd x8 x9)).f2, 0, rd x8 x9⟩ : S60)]) x8 (wrap64 (x9 + 1)) x193000 x193001) else (none)) else (spec_VarsOf.l1 k x5 x8 (wrap64 (x9 + 1)) x193000 x193001)) else (none)) else (none)) else (none)) else (some x5)
end
def spec_VarsOf.f (k : Nat) (l0_0 : List (S62)) (l0_1 : List (S56)) (a1 : Int) : Option ((List (S60))) := (some (([] : List (S60)) : List (S60))).bind fun y193 => ((spec_l01In.f a1 0 (wrap64 ((l0_1.length : Int) - 1))).bind fun t196 => (if t196 = true then (if 0 ≤ a1 then (if a1 < (l0_1.length : Int) then (spec_VarsOf.l0 k y193 0 l0_0 l0_1 ((rd_T56 l0_1 a1).f0) ((rd_T56 l0_1 a1).f1) ((rd_T56 l0_1 a1).f2) ((rd_T56 l0_1 a1).f3) ((rd_T56 l0_1 a1).f4)) else (none)) else (none)) else (some y193)))
theorem spec_VarsOf.mono_l : ∀ k, (∀ y0 y1 y2 y3 y4 y5 y6 y7 y8, LeO (spec_VarsOf.l0 k y0 y1 y2 y3 y4 y5 y6 y7 y8) (spec_VarsOf.l0 (k + 1) y0 y1 y2 y3 y4 y5 y6 y7 y8)) ∧ (∀ y0 y1 y2 y3 y4, LeO (spec_VarsOf.l1 k y0 y1 y2 y3 y4) (spec_VarsOf.l1 (k + 1) y0 y1 y2 y3 y4))
 | 0 => ⟨fun _ _ _ _ _ _ _ _ _ r h => by simp [spec_VarsOf.l0] at h, fun _ _ _ _ _ r h => by simp [spec_VarsOf.l1] at h⟩
 | k + 1 => by
  obtain ⟨ih0, ih1⟩ := spec_VarsOf.mono_l k
  refine ⟨?_, ?_⟩
  ·
   intro y0 y1 y2 y3 y4 y5 y6 y7 y8
   unfold spec_VarsOf.l0
   with_reducible repeat' first | exact ih0 _ _ _ _ _ _ _ _ _ | exact ih1 _ _ _ _ _ | exact spec_Under.mono _ _ _ _ | exact LeO.refl _ | exact LeO.none _ | refine LeO.ite ?_ ?_ | refine LeO.bind ?_ (fun _ => ?_)
  ·
   intro y0 y1 y2 y3 y4
   unfold spec_VarsOf.l1
   with_reducible repeat' first | exact ih0 _ _ _ _ _ _ _ _ _ | exact ih1 _ _ _ _ _ | exact spec_Under.mono _ _ _ _ | exact LeO.refl _ | exact LeO.none _ | refine LeO.ite ?_ ?_ | refine LeO.bind ?_ (fun _ => ?_)
theorem spec_VarsOf.mono : ∀ a0 a1 a2 k, LeO (spec_VarsOf.f k a0 a1 a2) (spec_VarsOf.f (k + 1) a0 a1 a2) := by
 intro a0 a1 a2 k
 obtain ⟨ih0, ih1⟩ := spec_VarsOf.mono_l k
 unfold spec_VarsOf.f
 with_reducible repeat' first | exact ih0 _ _ _ _ _ _ _ _ _ | exact ih1 _ _ _ _ _ | exact spec_Under.mono _ _ _ _ | exact LeO.refl _ | exact LeO.none _ | refine LeO.ite ?_ ?_ | refine LeO.bind ?_ (fun _ => ?_)
def spec_VarsOf.T8 : Bool × List (List Nat × List Nat) := (true, [([], []), ([], []), ([1], [1]), ([], []), ([2, 3], [2, 3]), ([4], [4]), ([5], [5]), ([], []), ([7], [7]), ([], []), ([8, 9], [8, 9]), ([10], [10]), ([11], [11]), ([6, 12], [6, 12]), ([13], [13]), ([0, 14], [0, 14]), ([15, 15, 0, 1, 2, 3, 4, 5, 6, 7, 8, 9, 10, 11, 12, 13, 14, 15], [0, 15])])
def spec_VarsOf.B8 : List Nat := [0, 0, 2, 0, 14, 30, 62, 0, 128, 0, 896, 1920, 3968, 8190, 16382, 32767, 65535]
theorem spec_VarsOf.tab8 : rtab .any (opsOf Tryz.f10 8) = spec_VarsOf.T8 := by kernel_rfl
theorem spec_VarsOf.bits8 : waitsOk spec_VarsOf.T8.2 spec_VarsOf.B8 = true := by kernel_rfl
def spec_VarsOf.T13 : Bool × List (List Nat × List Nat) := (true, [([], []), ([0], [0]), ([], []), ([], []), ([2, 3], [2, 3]), ([4], [4]), ([1, 5], [1, 5]), ([6], [6]), ([7], [7]), ([8], [8])])
def spec_VarsOf.B13 : List Nat := [0, 1, 0, 0, 12, 28, 63, 127, 255, 511]
theorem spec_VarsOf.tab13 : rtab .any (opsOf Tryz.f10 13) = spec_VarsOf.T13 := by kernel_rfl
theorem spec_VarsOf.bits13 : waitsOk spec_VarsOf.T13.2 spec_VarsOf.B13 = true := by kernel_rfl
def spec_VarsOf.T14 : Bool × List (List Nat × List Nat) := (true, [([], []), ([], []), ([1], [1]), ([], []), ([], []), ([3, 4], [3, 4]), ([5], [5]), ([2, 6], [2, 6]), ([7], [7]), ([8], [8]), ([], []), ([], []), ([10, 11], [10, 11]), ([12], [12]), ([9, 13], [9, 13]), ([14], [14]), ([0, 15], [0, 15]), ([16, 16, 0, 1, 2, 3, 4, 5, 6, 7, 8, 9, 10, 11, 12, 13, 14, 15, 16], [0, 16])])
def spec_VarsOf.B14 : List Nat := [0, 0, 2, 0, 0, 24, 56, 126, 254, 510, 0, 0, 3072, 7168, 16382, 32766, 65535, 131071]
theorem spec_VarsOf.tab14 : rtab .any (opsOf Tryz.f10 14) = spec_VarsOf.T14 := by kernel_rfl
theorem spec_VarsOf.bits14 : waitsOk spec_VarsOf.T14.2 spec_VarsOf.B14 = true := by kernel_rfl
set_option maxHeartbeats 8000000 in
set_option maxRecDepth 100000 in
theorem spec_VarsOf.calls (k : Nat) (A0_0 : Option Addr) (c0_0 : Nat) (l0_0 : List (S62)) (A0_1 : Option Addr) (c0_1 : Nat) (l0_1 : List (S56)) (a1 : Int) (r : List (S60)) (w : World) (hr0_0 : Kd.C k62 w A0_0 l0_0.length l0_0) (hc0_0 : l0_0.length ≤ c0_0) (hr0_1 : Kd.C k56 w A0_1 l0_1.length l0_1) (hc0_1 : l0_1.length ≤ c0_1) (h : spec_VarsOf.f k l0_0 l0_1 a1 = some r) :
  Calls Tryz.prog 10 #[.agg #[.slice A0_0 l0_0.length c0_0, .slice A0_1 l0_1.length c0_1], .int .i64 a1] w fun e w' => ∃ v0_ : Value, e = .returned (v0_) ∧ Kd.R k60 60 w' w.heap.size (fun _ => True) v0_ r ∧ Below w.heap.size w w' := by
 have hu32 := Tryz.underlying32
 have hu56 := Tryz.underlying56
 have hu60 := Tryz.underlying60
 have HR0_0 := As.mk hr0_0
 have HC0_0 := As.mk hc0_0
 clear hr0_0 hc0_0
 have HR0_1 := As.mk hr0_1
 have HC0_1 := As.mk hc0_1
 clear hr0_1 hc0_1
 have HB := As.mk (Below.refl w.heap.size w)
 have H : ((some (([] : List (S60)) : List (S60))).bind fun y193 => ((spec_l01In.f a1 0 (wrap64 ((l0_1.length : Int) - 1))).bind fun t196 => (if t196 = true then (if 0 ≤ a1 then (if a1 < (l0_1.length : Int) then (spec_VarsOf.l0 k y193 0 l0_0 l0_1 ((rd_T56 l0_1 a1).f0) ((rd_T56 l0_1 a1).f1) ((rd_T56 l0_1 a1).f2) ((rd_T56 l0_1 a1).f3) ((rd_T56 l0_1 a1).f4)) else (none)) else (none)) else (some y193)))) = some r := h
 clear h
 obtain ⟨y193, hy193⟩ : ∃ y_ : List (S60), y_ = (([] : List (S60))) := ⟨_, rfl⟩
 replace H : ((spec_l01In.f a1 0 (wrap64 ((l0_1.length : Int) - 1))).bind fun t196 => (if t196 = true then (if 0 ≤ a1 then (if a1 < (l0_1.length : Int) then (spec_VarsOf.l0 k y193 0 l0_0 l0_1 ((rd_T56 l0_1 a1).f0) ((rd_T56 l0_1 a1).f1) ((rd_T56 l0_1 a1).f2) ((rd_T56 l0_1 a1).f3) ((rd_T56 l0_1 a1).f4)) else (none)) else (none)) else (some y193))) = some r := by first | (rw [hy193]; with_reducible exact H) | (have H2_ := (Option.bind_some _ _).symm.trans H; rw [hy193]; with_reducible exact H2_) | (have H2_ := (Option.bind_some _ _).symm.trans H; with_reducible exact H2_) | with_reducible exact H | (rw [hy193]; exact H) | exact H
 have Ny193 := As.mk hy193
 clear hy193
 obtain ⟨t196, A30, H⟩ := Option.bind_eq_some_iff.mp H
 try dsimp only at H
 have A3 := As.mk A30
 clear A30
 by_cases c4 : t196 = true
 rotate_left
 ·
  replace c4 := Bool.eq_false_iff.mpr c4
  subst c4
  rw [if_neg (show ¬ (false = true) by decide)] at H
  obtain rfl := Option.some.inj H
  go_enter Tryz.func10, Tryz.ntmps10
  go_wp2_with (first | ((with_reducible refine gate_dst (N := 2) rfl ?_); refine box_event ?hg (N := 2) ?hd (cs := #[.slice A0_0 l0_0.length c0_0, .slice A0_1 l0_1.length c0_1]) (t := 32) ?hr ?_; (case hd => rfl); (case hg => rfl); (case hr => first | (go_simp; done) | (go_simp; rfl)); intro gb192 hg w39 hbox hb; have BK192 := As.mk (hbox); have GW192 := As.mk (gs w hg); have GE192 := As.mk (gs w hg); replace HB := As.mk (below_step (be w) hb); clear hb hbox hg) | ((with_reducible refine gate_dst (N := 10) rfl ?_); refine Kd.R_lit k60 _ 60 ?hg (N := 10) ?hd (xs := ([] : List (S60))) (inner := []) (ok := fun _ => True) (okp := fun _ => True) ?hr ?hp (fun _ hk => hk) trivial (Below.refl _ _) (Nat.le_refl _) (by simp) ?_; (case hd => rfl); (case hg => rfl); (case hr => first | (go_simp; done) | (go_simp; rfl)); (case hp => exact (Reps.none _ _)); intro v194 w40 ho41 hb hg_ hnew_; clear hg_ hnew_; (first | rw [← Ny193.out] at ho41 | (simp only [Int.reduceToNat] at ho41; rw [← Ny193.out] at ho41)); have HO195 := As.mk (Kd.R_lower ho41 (below_size (be w))); replace BK192 := As.mk (blk_below (bx BK192.out) hb); replace HB := As.mk (below_step (be w) hb); clear hb ho41; obtain ⟨hcz42_0, hcz42_1, hfz42_0, hfz42_1⟩ := cl2 BK192.out) | ((with_reducible refine gate_callee (f := 33) rfl ?_); refine goesL_ (some 16) rfl rfl Tryz.func33 (by kernel_rfl) rfl #[.int .i64 a1, .int .i64 0, .int .i64 (wrap64 ((l0_1.length : Int) - 1))] rfl (by (try simp only [lm]); first | done | rfl | (simp only [List.length_drop, List.length_take]; rfl)) ?_; (with_reducible refine (spec_l01In.calls a1 0 (wrap64 ((l0_1.length : Int) - 1)) false _ A3.out).mono ?_); rintro e w' ⟨rfl, ⟨nd, rfl⟩⟩; refine ⟨_, rfl, ?_⟩))
  go_ret
  exact ⟨_, ez, by (with_reducible repeat (first | apply Kd.R_alloc | apply Kd.R_drewN | apply Kd.R_drew)); exact HO195.out, be w⟩

 subst c4
 rw [if_pos rfl] at H
 by_cases c5 : 0 ≤ a1
 rotate_left; · rw [if_neg c5] at H; exact absurd H (by simp)
 rw [if_pos c5] at H
 have c5b0 : decide (0 ≤ a1) = true := decide_eq_true c5
 clear c5
 by_cases c6 : a1 < (l0_1.length : Int)
 rotate_left; · rw [if_neg c6] at H; exact absurd H (by simp)
 rw [if_pos c6] at H
 have c6b0 : decide (a1 < (l0_1.length : Int)) = true := decide_eq_true c6
 clear c6
 have H' := As.mk H
 clear H
 go_enter Tryz.func10, Tryz.ntmps10
 go_wp2_with (first | ((with_reducible refine gate_dst (N := 2) rfl ?_); refine box_event ?hg (N := 2) ?hd (cs := #[.slice A0_0 l0_0.length c0_0, .slice A0_1 l0_1.length c0_1]) (t := 32) ?hr ?_; (case hd => rfl); (case hg => rfl); (case hr => first | (go_simp; done) | (go_simp; rfl)); intro gb192 hg w7 hbox hb; have BK192 := As.mk (hbox); have GW192 := As.mk (gs w hg); have GE192 := As.mk (gs w hg); replace HB := As.mk (below_step (be w) hb); clear hb hbox hg) | ((with_reducible refine gate_dst (N := 10) rfl ?_); refine Kd.R_lit k60 _ 60 ?hg (N := 10) ?hd (xs := ([] : List (S60))) (inner := []) (ok := fun _ => True) (okp := fun _ => True) ?hr ?hp (fun _ hk => hk) trivial (Below.refl _ _) (Nat.le_refl _) (by simp) ?_; (case hd => rfl); (case hg => rfl); (case hr => first | (go_simp; done) | (go_simp; rfl)); (case hp => exact (Reps.none _ _)); intro v194 w8 ho9 hb hg_ hnew_; clear hg_ hnew_; (first | rw [← Ny193.out] at ho9 | (simp only [Int.reduceToNat] at ho9; rw [← Ny193.out] at ho9)); have HO195 := As.mk (Kd.R_lower ho9 (below_size (be w))); replace BK192 := As.mk (blk_below (bx BK192.out) hb); replace HB := As.mk (below_step (be w) hb); clear hb ho9; obtain ⟨hcz10_0, hcz10_1, hfz10_0, hfz10_1⟩ := cl2 BK192.out) | ((with_reducible refine gate_callee (f := 33) rfl ?_); refine goesL_ (some 16) rfl rfl Tryz.func33 (by kernel_rfl) rfl #[.int .i64 a1, .int .i64 0, .int .i64 (wrap64 ((l0_1.length : Int) - 1))] rfl (by (try simp only [lm]); first | done | rfl | (simp only [List.length_drop, List.length_take]; rfl)) ?_; (with_reducible refine (spec_l01In.calls a1 0 (wrap64 ((l0_1.length : Int) - 1)) true _ A3.out).mono ?_); rintro e w' ⟨rfl, ⟨nd, rfl⟩⟩; refine ⟨_, rfl, ?_⟩; (try (rw [drewN_self w8]; generalize hq_ : World.drewN w8 _ = w8; have n0_ : As (Kd.R k60 60 w8 w.heap.size (fun _ => True) v194 y193) := ⟨by rw [← hq_]; exact (by (with_reducible repeat (first | apply Kd.R_alloc | apply Kd.R_drewN | apply Kd.R_drew)); exact HO195.out)⟩; have n1_ : As (w8.heap[gb192]? = some (.cells #[.slice A0_0 l0_0.length c0_0, .slice A0_1 l0_1.length c0_1] 32 (0, 0))) := ⟨by rw [← hq_]; exact (bx BK192.out)⟩; have n2_ : As (Below w.heap.size w w8) := ⟨by rw [← hq_]; exact (be w)⟩; clear HO195 BK192 HB hq_; have HO195 := n0_; have BK192 := n1_; have HB := n2_; clear n0_ n1_ n2_; obtain ⟨hcy1_0, hcy1_1, hfy1_0, hfy1_1⟩ := cl2 BK192.out)); have p197 : 0 ≤ (a1 : Int) := od; have q197 : a1 < (l0_1.length : Int) := od; obtain ⟨ad197, A197_1, c197_1, e197, hx197_0, hx197_1, hx197_2, hx197_3, hx197_4, hl197_1, hi197_1⟩ := at_T56 HR0_1.out a1 p197 q197; cases e197; replace hx197_0 := ce HB.out hx197_0; replace hx197_1 := ce HB.out hx197_1; replace hx197_2 := ce HB.out hx197_2; replace hx197_3 := ce HB.out hx197_3; replace hx197_4 := ce HB.out hx197_4; have HR197_1 := As.mk hi197_1; have HC197_1 := As.mk hl197_1; clear hi197_1 hl197_1; replace p197 := eq_true p197; replace q197 := eq_true q197) | ((with_reducible refine gate_dst (N := 6) rfl ?_); refine box_event ?hg (N := 6) ?hd (cs := #[.string (⟨#[]⟩ : ByteArray), .slice none 0 0, .int .i64 0, .int .i64 0, .int .i64 0]) (t := 56) ?hr ?_; (case hd => rfl); (case hg => rfl); (case hr => first | (go_simp; done) | (go_simp; rfl)); intro gb198 hg w11 hbox hb; replace HO195 := As.mk (Kd.R_below (by (with_reducible repeat (first | apply Kd.R_alloc | apply Kd.R_drewN | apply Kd.R_drew)); exact HO195.out) hb); have BK198 := As.mk (hbox); have GW198 := As.mk (gs w hg); have GE198 := As.mk (gs w hg); replace HB := As.mk (below_step (be w) hb); have NB192_198 := As.mk (nl hg (bx BK192.out)); have NB198_192 := As.mk (ng hg (bx BK192.out)); replace BK192 := As.mk (blk_below (bx BK192.out) hb); clear hb hbox hg; have hnb12 := NB198_192.out; have hnc12 := NB192_198.out; obtain ⟨hcz13_0, hcz13_1, hcz13_2, hcz13_3, hcz13_4, hfz13_0, hfz13_1, hfz13_2, hfz13_3, hfz13_4⟩ := cl5 BK198.out))
 (try simp only [pk])
 go_loopg [5, 7] k (fun kq v5 v7 w' => ∃ (x5_1 : List (S60)) (x7_1 : Int), v7 = .int .i64 x7_1 ∧ As (spec_VarsOf.l0 kq x5_1 x7_1 l0_0 l0_1 ((rd_T56 l0_1 a1).f0) ((rd_T56 l0_1 a1).f1) ((rd_T56 l0_1 a1).f2) ((rd_T56 l0_1 a1).f3) ((rd_T56 l0_1 a1).f4) = some r) ∧ As (kq ≤ k) ∧ As (Kd.R k60 60 w' w.heap.size (fun _ => True) v5 x5_1) ∧ As (w'.heap[gb192]? = some (.cells #[(.slice A0_0 l0_0.length c0_0), (.slice (some ad197) l0_1.length c0_1)] 32 (0, 0))) ∧ As (w'.heap[gb198]? = some (.cells #[.string ((rd_T56 l0_1 a1).f0), (.slice A197_1 ((rd_T56 l0_1 a1).f1).length c197_1), .int .i64 ((rd_T56 l0_1 a1).f2), .int .i64 ((rd_T56 l0_1 a1).f3), .int .i64 ((rd_T56 l0_1 a1).f4)] 56 (0, 0))) ∧ As (Below w.heap.size w w'))
 case atStart => exact ⟨(y193), (0), (by first | rfl | (simp; done) | (simp [*]; done)), H', ⟨Nat.le_refl _⟩, ⟨by (with_reducible repeat (first | apply Kd.R_alloc | apply Kd.R_drewN | apply Kd.R_drew)); exact Kd.R_mono (Kd.R_far (p := ⟨gb198, 4, none⟩) (Kd.R_far (p := ⟨gb198, 3, none⟩) (Kd.R_far (p := ⟨gb198, 2, none⟩) (Kd.R_far (p := ⟨gb198, 1, none⟩) (Kd.R_far (p := ⟨gb198, 0, none⟩) (Kd.R_types HO195.out BK198.out (by decide)) (fun _ hk => hk.2) (.string ((rd_T56 l0_1 a1).f0))) (fun _ hk => hk.2) (.slice A197_1 ((rd_T56 l0_1 a1).f1).length c197_1)) (fun _ hk => hk.2) (.int .i64 ((rd_T56 l0_1 a1).f2))) (fun _ hk => hk.2) (.int .i64 ((rd_T56 l0_1 a1).f3))) (fun _ hk => hk.2) (.int .i64 ((rd_T56 l0_1 a1).f4))) (fun _ hk => trivial)⟩, ⟨by refine pl ?_; refine blk_far ?_ NB192_198.out _; refine pl ?_; refine blk_far ?_ NB192_198.out _; refine pl ?_; refine blk_far ?_ NB192_198.out _; refine pl ?_; refine blk_far ?_ NB192_198.out _; refine pl ?_; refine blk_far ?_ NB192_198.out _; exact bx BK192.out⟩, ⟨by refine pl ?_; refine blk_put (cs := #[.string ((rd_T56 l0_1 a1).f0), .slice A197_1 ((rd_T56 l0_1 a1).f1).length c197_1, .int .i64 ((rd_T56 l0_1 a1).f2), .int .i64 ((rd_T56 l0_1 a1).f3), .int .i64 0]) ?_ 4 _ rfl; refine pl ?_; refine blk_put (cs := #[.string ((rd_T56 l0_1 a1).f0), .slice A197_1 ((rd_T56 l0_1 a1).f1).length c197_1, .int .i64 ((rd_T56 l0_1 a1).f2), .int .i64 0, .int .i64 0]) ?_ 3 _ rfl; refine pl ?_; refine blk_put (cs := #[.string ((rd_T56 l0_1 a1).f0), .slice A197_1 ((rd_T56 l0_1 a1).f1).length c197_1, .int .i64 0, .int .i64 0, .int .i64 0]) ?_ 2 _ rfl; refine pl ?_; refine blk_put (cs := #[.string ((rd_T56 l0_1 a1).f0), .slice none 0 0, .int .i64 0, .int .i64 0, .int .i64 0]) ?_ 1 _ rfl; refine pl ?_; refine blk_put (cs := #[.string (⟨#[]⟩ : ByteArray), .slice none 0 0, .int .i64 0, .int .i64 0, .int .i64 0]) ?_ 0 _ rfl; exact bx BK198.out⟩, ⟨be w⟩⟩
 case round =>
  clear H'
  (try clear c4); (try clear c5); (try clear c5b0); (try clear c6); (try clear c6b0); (try clear hcz10_0); (try clear hcz10_1); (try clear hcz13_0); (try clear hcz13_1); (try clear hcz13_2); (try clear hcz13_3); (try clear hcz13_4); (try clear hfz10_0); (try clear hfz10_1); (try clear hfz13_0); (try clear hfz13_1); (try clear hfz13_2); (try clear hfz13_3); (try clear hfz13_4); (try clear hx197_0); (try clear hx197_1); (try clear hx197_2); (try clear hx197_3); (try clear hx197_4); (try clear p197); (try clear q197)
  obtain ⟨x5_1, x7_1, rfl, HA, HK1, HO_5, BK192, BK198, HB⟩ := hrel
  cases gk with
  | zero => exact absurd HA.out (by simp [spec_VarsOf.l0])
  | succ k1 =>
   have H := HA.out
   clear HA
   simp only [spec_VarsOf.l0] at H
   by_cases c14 : x7_1 < (((rd_T56 l0_1 a1).f1).length : Int)
   ·
    rw [if_pos c14] at H
    have c14b0 : decide (x7_1 < (((rd_T56 l0_1 a1).f1).length : Int)) = true := decide_eq_true c14
    clear c14
    by_cases c15 : 0 ≤ x7_1
    rotate_left; · rw [if_neg c15] at H; exact absurd H (by simp)
    rw [if_pos c15] at H
    have c15b0 : decide (0 ≤ x7_1) = true := decide_eq_true c15
    clear c15
    by_cases c16 : x5_1.length < 4398046511104
    rotate_left; · rw [if_neg c16] at H; exact absurd H (by simp)
    rw [if_pos c16] at H
    have LMc16 := As.mk c16
    clear c16
    obtain ⟨y201, hy201⟩ : ∃ y_ : List (S60), y_ = (x5_1 ++ [(⟨(rd_T58 ((rd_T56 l0_1 a1).f1) x7_1).f0, (rd_T58 ((rd_T56 l0_1 a1).f1) x7_1).f1, (-1)⟩ : S60)]) := ⟨_, rfl⟩
    replace H : (spec_VarsOf.l0 k1 y201 (wrap64 (x7_1 + 1)) l0_0 l0_1 ((rd_T56 l0_1 a1).f0) ((rd_T56 l0_1 a1).f1) ((rd_T56 l0_1 a1).f2) ((rd_T56 l0_1 a1).f3) ((rd_T56 l0_1 a1).f4)) = some r := by first | (rw [hy201]; with_reducible exact H) | (have H2_ := (Option.bind_some _ _).symm.trans H; rw [hy201]; with_reducible exact H2_) | (have H2_ := (Option.bind_some _ _).symm.trans H; with_reducible exact H2_) | with_reducible exact H | (rw [hy201]; exact H) | exact H
    have Ny201 := As.mk hy201
    clear hy201
    have H' := As.mk H
    clear H
    have hnb17 := NB198_192.out
    have hnc17 := NB192_198.out
    obtain ⟨hcz18_0, hcz18_1, hcz18_2, hcz18_3, hcz18_4, hfz18_0, hfz18_1, hfz18_2, hfz18_3, hfz18_4⟩ := cl5 BK198.out
    try go_wp2
    replace HO_5 := As.mk (Kd.R_drew HO_5.out)
    replace BK192 := As.mk (blk_drew BK192.out)
    replace BK198 := As.mk (blk_drew BK198.out)
    replace HB := As.mk (below_drew1 HB.out)
    have p199 : 0 ≤ (x7_1 : Int) := od
    have q199 : x7_1 < (((rd_T56 l0_1 a1).f1).length : Int) := od
    obtain ⟨ad199, e199, hx199_0, hx199_1⟩ := at_T58 HR197_1.out x7_1 p199 q199
    have hw199_1 := hx199_1
    have hw199_0 := hx199_0
    cases e199
    replace hx199_0 := ce HB.out hx199_0
    replace hx199_1 := ce HB.out hx199_1
    replace p199 := eq_true p199
    replace q199 := eq_true q199
    have p200 : 0 ≤ (x7_1 : Int) := od
    have q200 : x7_1 < (((rd_T56 l0_1 a1).f1).length : Int) := od
    obtain ⟨ad200, e200, hx200_0, hx200_1⟩ := at_T58 HR197_1.out x7_1 p200 q200
    have hw200_1 := hx200_1
    have hw200_0 := hx200_0
    obtain rfl : ad199 = ad200 := (by injection e200)
    replace hx200_0 := ce HB.out hx200_0
    replace hx200_1 := ce HB.out hx200_1
    replace p200 := eq_true p200
    replace q200 := eq_true q200
    refine start_ (n := 17) (S := fun w' => w'.cell? ⟨gb198, 0, none⟩ = some (.string ((rd_T56 l0_1 a1).f0)) ∧ w'.cell? ⟨gb198, 1, none⟩ = some (.slice (some ad199) ((rd_T56 l0_1 a1).f1).length c197_1) ∧ w'.cell? ⟨gb198, 2, none⟩ = some (.int .i64 ((rd_T56 l0_1 a1).f2)) ∧ w'.cell? ⟨gb198, 3, none⟩ = some (.int .i64 ((rd_T56 l0_1 a1).f3)) ∧ w'.cell? ⟨gb198, 4, none⟩ = some (.int .i64 ((rd_T56 l0_1 a1).f4)) ∧ w'.cell? (ad199.add ((x7_1).toNat * 2)) = some (.string ((rd_T58 ((rd_T56 l0_1 a1).f1) x7_1).f0)) ∧ w'.cell? ⟨(ad199.add ((x7_1).toNat * 2)).block, (ad199.add ((x7_1).toNat * 2)).off + 1, none⟩ = some (.int .i64 ((rd_T58 ((rd_T56 l0_1 a1).f1) x7_1).f1)) ∧ w'.cell? (ad199.add ((x7_1).toNat * 2)) = some (.string ((rd_T58 ((rd_T56 l0_1 a1).f1) x7_1).f0)) ∧ w'.cell? ⟨(ad199.add ((x7_1).toNat * 2)).block, (ad199.add ((x7_1).toNat * 2)).off + 1, none⟩ = some (.int .i64 ((rd_T58 ((rd_T56 l0_1 a1).f1) x7_1).f1))) (ds := []) #[O, O, O, O, O, O, O, O, O, O, O, O, O, O, O, O, O] (by kernel_rfl) rfl rfl ⟨(blk_cell BK198.out 0).trans rfl, (blk_cell BK198.out 1).trans rfl, (blk_cell BK198.out 2).trans rfl, (blk_cell BK198.out 3).trans rfl, (blk_cell BK198.out 4).trans rfl, (ce HB.out hw199_0 :), (ce HB.out hw199_1 :), (ce HB.out hw200_0 :), (ce HB.out hw200_1 :)⟩ (fun hHeld => ?_); refine with_tabW spec_VarsOf.tab8 spec_VarsOf.bits8 (fun HT_ HW_ => ?_)
    generalize wr.drew = w19 at HO_5 BK192 BK198 HB hx199_0 hx199_1 hx200_0 hx200_1 hHeld ⊢
    refine pure_ (i := 0) (N := some 31) (v := ?_) (a' := ?_) #[I, O, O, O, O, O, O, O, O, O, O, O, O, O, O, O, O] rfl rfl (any_of HT_.out (by kernel_rfl)) (fun _ _ _ h => h) (Or.inl ⟨by rfl, ?_⟩) ?_ ?_
    rotate_left; · intro w'; go_simp; with_reducible rfl
    rotate_left; · simp only [pk, i64_w, i32_w]; rfl
    refine pure_ (i := 1) (N := some 32) (v := ?_) (a' := ?_) #[I, I, O, O, O, O, O, O, O, O, O, O, O, O, O, O, O] rfl rfl (any_of HT_.out (by kernel_rfl)) (fun _ _ _ h => h) (Or.inl ⟨by rfl, ?_⟩) ?_ ?_
    rotate_left; · intro w'; go_simp; with_reducible rfl
    rotate_left; · simp only [pk, i64_w, i32_w]; rfl
    refine pure_ (i := 3) (N := some 34) (v := ?_) (a' := ?_) #[I, I, O, I, O, O, O, O, O, O, O, O, O, O, O, O, O] rfl rfl (any_of HT_.out (by kernel_rfl)) (fun _ _ _ h => h) (Or.inl ⟨by rfl, ?_⟩) ?_ ?_
    rotate_left; · intro w'; go_simp; with_reducible rfl
    rotate_left; · simp only [pk, i64_w, i32_w]; rfl
    refine pure_ (i := 7) (N := some 38) (v := ?_) (a' := ?_) #[I, I, O, I, O, O, O, I, O, O, O, O, O, O, O, O, O] rfl rfl (any_of HT_.out (by kernel_rfl)) (fun _ _ _ h => h) (Or.inl ⟨by rfl, ?_⟩) ?_ ?_
    rotate_left; · intro w'; go_simp; with_reducible rfl
    rotate_left; · simp only [pk, i64_w, i32_w]; rfl
    refine pure_ (i := 9) (N := some 40) (v := ?_) (a' := ?_) #[I, I, O, I, O, O, O, I, O, I, O, O, O, O, O, O, O] rfl rfl (any_of HT_.out (by kernel_rfl)) (fun _ _ _ h => h) (Or.inl ⟨by rfl, ?_⟩) ?_ ?_
    rotate_left; · intro w'; go_simp; with_reducible rfl
    rotate_left; · simp only [pk, i64_w, i32_w]; rfl
    refine take_ (i := 2) (N := some 33) (v := ?_) (a' := ?_) #[I, I, I, I, O, O, O, I, O, I, O, O, O, O, O, O, O] rfl rfl (take_ofW HT_.out HW_.out (by kernel_rfl)) (fun _ _ _ h => h) (Or.inl ⟨by rfl, ?_⟩) hHeld ?_ ?_
    rotate_left; · rintro w' ⟨s0, s1, s2, s3, s4, s5, s6, s7, s8⟩; go_simp; with_reducible rfl
    rotate_left; · simp only [pk, i64_w, i32_w]; rfl
    refine pure_ (i := 4) (N := some 35) (v := ?_) (a' := ?_) #[I, I, I, I, I, O, O, I, O, I, O, O, O, O, O, O, O] rfl rfl (any_of HT_.out (by kernel_rfl)) (fun _ _ _ h => h) (Or.inl ⟨by rfl, ?_⟩) ?_ ?_
    rotate_left; · intro w'; go_simp; with_reducible rfl
    rotate_left; · simp only [pk, i64_w, i32_w]; rfl
    refine pure_ (i := 5) (N := some 36) (v := ?_) (a' := ?_) #[I, I, I, I, I, I, O, I, O, I, O, O, O, O, O, O, O] rfl rfl (any_of HT_.out (by kernel_rfl)) (fun _ _ _ h => h) (Or.inl ⟨by rfl, ?_⟩) ?_ ?_
    rotate_left; · intro w'; go_simp; with_reducible rfl
    rotate_left; · simp only [pk, i64_w, i32_w]; rfl
    refine take_ (i := 6) (N := some 37) (v := ?_) (a' := ?_) #[I, I, I, I, I, I, I, I, O, I, O, O, O, O, O, O, O] rfl rfl (take_ofW HT_.out HW_.out (by kernel_rfl)) (fun _ _ _ h => h) (Or.inl ⟨by rfl, ?_⟩) hHeld ?_ ?_
    rotate_left; · rintro w' ⟨s0, s1, s2, s3, s4, s5, s6, s7, s8⟩; go_simp; with_reducible rfl
    rotate_left; · simp only [pk, i64_w, i32_w]; rfl
    refine take_ (i := 8) (N := some 39) (v := ?_) (a' := ?_) #[I, I, I, I, I, I, I, I, I, I, O, O, O, O, O, O, O] rfl rfl (take_ofW HT_.out HW_.out (by kernel_rfl)) (fun _ _ _ h => h) (Or.inl ⟨by rfl, ?_⟩) hHeld ?_ ?_
    rotate_left; · rintro w' ⟨s0, s1, s2, s3, s4, s5, s6, s7, s8⟩; go_simp; with_reducible rfl
    rotate_left; · simp only [pk, i64_w, i32_w]; rfl
    refine pure_ (i := 10) (N := some 41) (v := ?_) (a' := ?_) #[I, I, I, I, I, I, I, I, I, I, I, O, O, O, O, O, O] rfl rfl (any_of HT_.out (by kernel_rfl)) (fun _ _ _ h => h) (Or.inl ⟨by rfl, ?_⟩) ?_ ?_
    rotate_left; · intro w'; go_simp; with_reducible rfl
    rotate_left; · simp only [pk, i64_w, i32_w]; rfl
    refine pure_ (i := 11) (N := some 42) (v := ?_) (a' := ?_) #[I, I, I, I, I, I, I, I, I, I, I, I, O, O, O, O, O] rfl rfl (any_of HT_.out (by kernel_rfl)) (fun _ _ _ h => h) (Or.inl ⟨by rfl, ?_⟩) ?_ ?_
    rotate_left; · intro w'; go_simp; with_reducible rfl
    rotate_left; · simp only [pk, i64_w, i32_w]; rfl
    refine take_ (i := 12) (N := some 43) (v := ?_) (a' := ?_) #[I, I, I, I, I, I, I, I, I, I, I, I, I, O, O, O, O] rfl rfl (take_ofW HT_.out HW_.out (by kernel_rfl)) (fun _ _ _ h => h) (Or.inl ⟨by rfl, ?_⟩) hHeld ?_ ?_
    rotate_left; · rintro w' ⟨s0, s1, s2, s3, s4, s5, s6, s7, s8⟩; go_simp; with_reducible rfl
    rotate_left; · simp only [pk, i64_w, i32_w]; rfl
    refine pure_ (i := 13) (N := some 44) (v := ?_) (a' := ?_) #[I, I, I, I, I, I, I, I, I, I, I, I, I, I, O, O, O] rfl rfl (any_of HT_.out (by kernel_rfl)) (fun _ _ _ h => h) (Or.inl ⟨by rfl, ?_⟩) ?_ ?_
    rotate_left; · intro w'; go_simp; with_reducible rfl
    rotate_left; · simp only [pk, i64_w, i32_w]; rfl
    refine one_ (i := 14) (N := some 45) #[I, I, I, I, I, I, I, I, I, I, I, I, I, I, I, O, O] rfl rfl (one_of HT_.out (by kernel_rfl)) (by decide) (fun K hK => ?_)
    refine value_ (w1 := ?_) (v := ?_) (by rfl) rfl ?_ ?_
    rotate_left 2
    ·
     go_simp
     constructor
     · rfl
     · rfl
    refine hK.out _ _ ⟨(blk_cell (blk_alloc BK198.out _) 0).trans rfl, (blk_cell (blk_alloc BK198.out _) 1).trans rfl, (blk_cell (blk_alloc BK198.out _) 2).trans rfl, (blk_cell (blk_alloc BK198.out _) 3).trans rfl, (blk_cell (blk_alloc BK198.out _) 4).trans rfl, (World.cell?_alloc_lt _ _ _ (World.block_lt_of_cell? _ _ ((ce HB.out hw199_0 :)))).trans ((ce HB.out hw199_0 :)), (World.cell?_alloc_lt _ _ _ (World.block_lt_of_cell? _ _ ((ce HB.out hw199_1 :)))).trans ((ce HB.out hw199_1 :)), (World.cell?_alloc_lt _ _ _ (World.block_lt_of_cell? _ _ ((ce HB.out hw200_0 :)))).trans ((ce HB.out hw200_0 :)), (World.cell?_alloc_lt _ _ _ (World.block_lt_of_cell? _ _ ((ce HB.out hw200_1 :)))).trans ((ce HB.out hw200_1 :))⟩ (fun hHeld => ?_)
    clear hK K
    refine norm_ (a' := ?_) ?_ ?_
    rotate_left
    ·
     show Act.put _ (some 45) _ = _
     simp only [pk, i64_w, i32_w]
     rfl
    refine one_ (i := 15) (N := some 46) #[I, I, I, I, I, I, I, I, I, I, I, I, I, I, I, I, O] rfl rfl (one_of HT_.out (by kernel_rfl)) (by decide) (fun K hK => ?_)
    refine Kd.R_append_step k60 (w0 := w) w.heap.size (by rfl) (.tmp 31) (.tmp 45) 27 60 (.agg #[(.string ⟨#[]⟩), (.int .i64 0), (.int .i64 0)]) 32 rfl Tryz.underlying27 info60 rfl (by decide) (by omega) u5 x5_1 (⟨(rd_T58 ((rd_T56 l0_1 a1).f1) x7_1).f0, (rd_T58 ((rd_T56 l0_1 a1).f1) x7_1).f1, (-1)⟩ : S60) [.string ((rd_T58 ((rd_T56 l0_1 a1).f1) x7_1).f0), .int .i64 ((rd_T58 ((rd_T56 l0_1 a1).f1) x7_1).f1), .int .i64 (-1)] (fun _ => True) (fun _ => False) rfl rfl ?aP (fun _ hk => hk.elim) ?aF ?aO ?aB ?aS ?aL ?_
    (case aP => exact k60_mkM _ _ _ (⟨(rd_T58 ((rd_T56 l0_1 a1).f1) x7_1).f0, (rd_T58 ((rd_T56 l0_1 a1).f1) x7_1).f1, (-1)⟩ : S60))
    (case aB => exact (be w))
    (case aF => exact (fun _ _ => trivial))
    (case aO => exact (by (with_reducible repeat (first | apply Kd.R_alloc | apply Kd.R_drewN | apply Kd.R_drew)); exact HO_5.out))
    (case aS => exact (below_size (be w)))
    (case aL => have := LMc16.out; omega)
    intro v202 w20 ho hb hg hat
    rw [← Ny201.out] at ho
    replace BK192 := As.mk (blk_grown (g := gb192) (o := .cells #[.slice A0_0 l0_0.length c0_0, .slice (some ad197) l0_1.length c0_1] 32 (0, 0)) (bx BK192.out) hg (Kd.R_ne HO_5.out BK192.out (by decide)))
    replace BK198 := As.mk (blk_grown (g := gb198) (o := .cells #[.string ((rd_T56 l0_1 a1).f0), .slice (some ad199) ((rd_T56 l0_1 a1).f1).length c197_1, .int .i64 ((rd_T56 l0_1 a1).f2), .int .i64 ((rd_T56 l0_1 a1).f3), .int .i64 ((rd_T56 l0_1 a1).f4)] 56 (0, 0)) (bx BK198.out) hg (Kd.R_ne HO_5.out BK198.out (by decide)))
    replace HB := As.mk (hb)
    have HO203 := As.mk (ho)
    clear HO_5
    clear ho hb hg hat
    refine hK.out _ _ ⟨(blk_cell BK198.out 0).trans rfl, (blk_cell BK198.out 1).trans rfl, (blk_cell BK198.out 2).trans rfl, (blk_cell BK198.out 3).trans rfl, (blk_cell BK198.out 4).trans rfl, (ce HB.out hw199_0 :), (ce HB.out hw199_1 :), (ce HB.out hw200_0 :), (ce HB.out hw200_1 :)⟩ (fun hHeld => ?_)
    clear hK K
    refine norm_ (a' := ?_) ?_ ?_
    rotate_left
    ·
     show Act.put _ (some 46) _ = _
     simp only [pk, i64_w, i32_w]
     rfl
    refine pure_ (i := 16) (N := some 5) (v := ?_) (a' := ?_) #[I, I, I, I, I, I, I, I, I, I, I, I, I, I, I, I, I] rfl rfl (any_of HT_.out (by kernel_rfl)) (fun _ _ _ h => h) (Or.inl ⟨by rfl, ?_⟩) ?_ ?_
    rotate_left; · intro w'; go_simp; with_reducible rfl
    rotate_left; · simp only [pk, i64_w, i32_w]; rfl
    refine done_ (done_of HT_.out (by kernel_rfl)) ?_
    try go_wp2
    go_roundg k1
    case measure => have := HK1.out; omega
    case rel => exact ⟨(y201), (wrap64 (x7_1 + 1)), (by first | rfl | (simp; done) | (simp [*]; done)), H', ⟨by have := HK1.out; omega⟩, ⟨by (with_reducible repeat (first | apply Kd.R_alloc | apply Kd.R_drewN | apply Kd.R_drew)); exact HO203.out⟩, ⟨bx BK192.out⟩, ⟨bx BK198.out⟩, ⟨be w⟩⟩
   rw [if_neg c14] at H
   have c14b0 : decide (x7_1 < (((rd_T56 l0_1 a1).f1).length : Int)) = false := decide_eq_false c14
   clear c14
   obtain ⟨t204, A210, H⟩ := Option.bind_eq_some_iff.mp H
   try dsimp only at H
   have A21 := As.mk A210
   clear A210
   have H' := As.mk H
   clear H
   have hnb22 := NB198_192.out
   have hnc22 := NB192_198.out
   obtain ⟨hcz23_0, hcz23_1, hcz23_2, hcz23_3, hcz23_4, hfz23_0, hfz23_1, hfz23_2, hfz23_3, hfz23_4⟩ := cl5 BK198.out
   obtain ⟨hcz24_0, hcz24_1, hfz24_0, hfz24_1⟩ := cl2 BK192.out
   go_wp2_with (first | ((with_reducible refine gate_callee (f := 24) rfl ?_); refine goesL_ (some 50) rfl rfl Tryz.func24 (by kernel_rfl) rfl #[.agg #[.slice A0_0 l0_0.length c0_0, .slice (some ad197) l0_1.length c0_1], .int .i64 ((rd_T56 l0_1 a1).f3)] rfl (by (try simp only [lm]); first | done | rfl | (simp only [List.length_drop, List.length_take]; rfl)) ?_; (with_reducible refine (spec_Under.calls k1 _ _ l0_0 _ _ l0_1 ((rd_T56 l0_1 a1).f3) t204 _ ?side1 ?side2 ?side3 ?side4 A21.out).mono ?_); (case side1 => exact Kd.C_below HR0_0.out (be w)); (case side2 => exact HC0_0.out); (case side3 => exact Kd.C_below HR0_1.out (be w)); (case side4 => exact HC0_1.out); rintro e w25 ⟨v205, rfl, ho0, hb⟩; refine ⟨_, rfl, ?_⟩; replace HO_5 := As.mk (Kd.R_below (by (with_reducible repeat (first | apply Kd.R_alloc | apply Kd.R_drewN | apply Kd.R_drew)); exact HO_5.out) hb); have HO206 := As.mk (Kd.R_lower ho0 (below_size (be w))); replace BK192 := As.mk (blk_below (bx BK192.out) hb); replace BK198 := As.mk (blk_below (bx BK198.out) hb); replace HB := As.mk (below_step (be w) hb); (try clear hb); (try clear hb2); (try clear hk); (try clear hi); (try clear ho0)))
   (try simp only [pk])
   go_loopg [5, 9] k1 (fun kq v5 v9 w' => ∃ (x5_2 : List (S60)) (x9_2 : Int), v9 = .int .i64 x9_2 ∧ As (spec_VarsOf.l1 kq x5_2 t204 x9_2 l0_0 l0_1 = some r) ∧ As (kq ≤ k1) ∧ As (Kd.R k60 60 w' w.heap.size (fun _ => True) v5 x5_2) ∧ As (Kd.R (Kd.int .i64) 3 w' w.heap.size (fun _ => True) v205 t204) ∧ As (w'.heap[gb192]? = some (.cells #[(.slice A0_0 l0_0.length c0_0), (.slice (some ad197) l0_1.length c0_1)] 32 (0, 0))) ∧ As (w'.heap[gb198]? = some (.cells #[.string ((rd_T56 l0_1 a1).f0), (.slice A197_1 ((rd_T56 l0_1 a1).f1).length c197_1), .int .i64 ((rd_T56 l0_1 a1).f2), .int .i64 ((rd_T56 l0_1 a1).f3), .int .i64 ((rd_T56 l0_1 a1).f4)] 56 (0, 0))) ∧ As (Below w.heap.size w w'))
   case atStart => exact ⟨(x5_1), (0), (by first | rfl | (simp; done) | (simp [*]; done)), H', ⟨Nat.le_refl _⟩, ⟨by (with_reducible repeat (first | apply Kd.R_alloc | apply Kd.R_drewN | apply Kd.R_drew)); exact HO_5.out⟩, ⟨by (with_reducible repeat (first | apply Kd.R_alloc | apply Kd.R_drewN | apply Kd.R_drew)); exact HO206.out⟩, ⟨bx BK192.out⟩, ⟨bx BK198.out⟩, ⟨be w⟩⟩
   case round =>
    clear H'
    (try clear c4); (try clear c5); (try clear c5b0); (try clear c6); (try clear c6b0); (try clear c14); (try clear c14b0); (try clear hcz10_0); (try clear hcz10_1); (try clear hcz13_0); (try clear hcz13_1); (try clear hcz13_2); (try clear hcz13_3); (try clear hcz13_4); (try clear hcz23_0); (try clear hcz23_1); (try clear hcz23_2); (try clear hcz23_3); (try clear hcz23_4); (try clear hcz24_0); (try clear hcz24_1); (try clear hfz10_0); (try clear hfz10_1); (try clear hfz13_0); (try clear hfz13_1); (try clear hfz13_2); (try clear hfz13_3); (try clear hfz13_4); (try clear hfz23_0); (try clear hfz23_1); (try clear hfz23_2); (try clear hfz23_3); (try clear hfz23_4); (try clear hfz24_0); (try clear hfz24_1); (try clear hx197_0); (try clear hx197_1); (try clear hx197_2); (try clear hx197_3); (try clear hx197_4); (try clear p197); (try clear q197)
    obtain ⟨x5_2, x9_2, rfl, HA, HK2, HO_5, HO_8, BK192, BK198, HB⟩ := hrel
    cases gk with
    | zero => exact absurd HA.out (by simp [spec_VarsOf.l1])
    | succ k2 =>
     have H := HA.out
     clear HA
     simp only [spec_VarsOf.l1] at H
     by_cases c26 : x9_2 < (t204.length : Int)
     rotate_left
     ·
      rw [if_neg c26] at H
      have c26b0 : decide (x9_2 < (t204.length : Int)) = false := decide_eq_false c26
      clear c26
      obtain rfl := Option.some.inj H
      obtain ⟨Ao38, co38, eo38⟩ := Kd.R_slice HO_8.out
      subst eo38
      go_wp2
      go_ret
      exact ⟨_, ez, by (with_reducible repeat (first | apply Kd.R_alloc | apply Kd.R_drewN | apply Kd.R_drew)); exact HO_5.out, be w⟩
     rw [if_pos c26] at H
     have c26b0 : decide (x9_2 < (t204.length : Int)) = true := decide_eq_true c26
     clear c26
     by_cases c27 : 0 ≤ x9_2
     rotate_left; · rw [if_neg c27] at H; exact absurd H (by simp)
     rw [if_pos c27] at H
     have c27b0 : decide (0 ≤ x9_2) = true := decide_eq_true c27
     clear c27
     by_cases c28 : 0 ≤ (rd t204 x9_2)
     rotate_left; · rw [if_neg c28] at H; exact absurd H (by simp)
     rw [if_pos c28] at H
     have c28b0 : decide (0 ≤ (rd t204 x9_2)) = true := decide_eq_true c28
     clear c28
     by_cases c29 : (rd t204 x9_2) < (l0_0.length : Int)
     rotate_left; · rw [if_neg c29] at H; exact absurd H (by simp)
     rw [if_pos c29] at H
     have c29b0 : decide ((rd t204 x9_2) < (l0_0.length : Int)) = true := decide_eq_true c29
     clear c29
     by_cases c30 : ((rd_T62 l0_0 (rd t204 x9_2)).f0) = 13
     rotate_left
     ·
      rw [if_neg c30] at H
      have c30b0 : (((rd_T62 l0_0 (rd t204 x9_2)).f0) == 13) = false := beq_eq_false_iff_ne.mpr c30
      have c30b1 : (((rd_T62 l0_0 (rd t204 x9_2)).f0) != 13) = true := bne_iff_ne.mpr c30
      have H' := As.mk H
      clear H
      obtain ⟨Ao36, co36, eo36⟩ := Kd.R_slice HO_8.out
      subst eo36
      try go_wp2
      replace HO_5 := As.mk (Kd.R_drew HO_5.out)
      replace HO_8 := As.mk (Kd.R_drew HO_8.out)
      replace BK192 := As.mk (blk_drew BK192.out)
      replace BK198 := As.mk (blk_drew BK198.out)
      replace HB := As.mk (below_drew1 HB.out)
      have p207 : 0 ≤ (x9_2 : Int) := od
      have q207 : x9_2 < (t204.length : Int) := od
      obtain ⟨ad207, e207, hx207_0⟩ := Kd.at_int (Kd.R_reads' HO_8.out).2.2 x9_2 p207 q207
      cases e207
      replace p207 := eq_true p207
      replace q207 := eq_true q207
      have p208 : 0 ≤ ((rd t204 x9_2) : Int) := od
      have q208 : (rd t204 x9_2) < (l0_0.length : Int) := od
      obtain ⟨ad208, A208_3, c208_3, e208, hx208_0, hx208_1, hx208_2, hx208_3, hl208_3, hi208_3⟩ := at_T62 HR0_0.out (rd t204 x9_2) p208 q208
      have hw208_3 := hx208_3
      have hw208_2 := hx208_2
      have hw208_1 := hx208_1
      have hw208_0 := hx208_0
      cases e208
      replace hx208_0 := ce HB.out hx208_0
      replace hx208_1 := ce HB.out hx208_1
      replace hx208_2 := ce HB.out hx208_2
      replace hx208_3 := ce HB.out hx208_3
      have HR208_3 := As.mk hi208_3
      have HC208_3 := As.mk hl208_3
      clear hi208_3 hl208_3
      replace p208 := eq_true p208
      replace q208 := eq_true q208
      refine start_ (n := 10) (S := fun w' => w'.cell? ⟨gb192, 0, none⟩ = some (.slice (some ad208) l0_0.length c0_0) ∧ w'.cell? ⟨gb192, 1, none⟩ = some (.slice (some ad197) l0_1.length c0_1) ∧ w'.cell? (ad207.add (x9_2).toNat) = some (.int .i64 (rd t204 x9_2)) ∧ w'.cell? (ad208.add (((rd t204 x9_2)).toNat * 4)) = some (.int .i64 ((rd_T62 l0_0 (rd t204 x9_2)).f0)) ∧ w'.cell? ⟨(ad208.add (((rd t204 x9_2)).toNat * 4)).block, (ad208.add (((rd t204 x9_2)).toNat * 4)).off + 1, none⟩ = some (.int .i64 ((rd_T62 l0_0 (rd t204 x9_2)).f1)) ∧ w'.cell? ⟨(ad208.add (((rd t204 x9_2)).toNat * 4)).block, (ad208.add (((rd t204 x9_2)).toNat * 4)).off + 2, none⟩ = some (.string ((rd_T62 l0_0 (rd t204 x9_2)).f2)) ∧ w'.cell? ⟨(ad208.add (((rd t204 x9_2)).toNat * 4)).block, (ad208.add (((rd t204 x9_2)).toNat * 4)).off + 3, none⟩ = some (.slice A208_3 ((rd_T62 l0_0 (rd t204 x9_2)).f3).length c208_3)) (ds := []) #[O, O, O, O, O, O, O, O, O, O] (by kernel_rfl) rfl rfl ⟨(blk_cell BK192.out 0).trans rfl, (blk_cell BK192.out 1).trans rfl, hx207_0, (ce HB.out hw208_0 :), (ce HB.out hw208_1 :), (ce HB.out hw208_2 :), (ce HB.out hw208_3 :)⟩ (fun hHeld => ?_); refine with_tabW spec_VarsOf.tab13 spec_VarsOf.bits13 (fun HT_ HW_ => ?_)
      generalize wr.drew = w37 at HO_5 HO_8 BK192 BK198 HB HR208_3 hx207_0 hx208_0 hx208_1 hx208_2 hx208_3 hHeld ⊢
      refine pure_ (i := 0) (N := some 57) (v := ?_) (a' := ?_) #[I, O, O, O, O, O, O, O, O, O] rfl rfl (any_of HT_.out (by kernel_rfl)) (fun _ _ _ h => h) (Or.inl ⟨by rfl, ?_⟩) ?_ ?_
      rotate_left; · intro w'; go_simp; with_reducible rfl
      rotate_left; · simp only [pk, i64_w, i32_w]; rfl
      refine pure_ (i := 2) (N := some 59) (v := ?_) (a' := ?_) #[I, O, I, O, O, O, O, O, O, O] rfl rfl (any_of HT_.out (by kernel_rfl)) (fun _ _ _ h => h) (Or.inl ⟨by rfl, ?_⟩) ?_ ?_
      rotate_left; · intro w'; go_simp; with_reducible rfl
      rotate_left; · simp only [pk, i64_w, i32_w]; rfl
      refine pure_ (i := 3) (N := some 60) (v := ?_) (a' := ?_) #[I, O, I, I, O, O, O, O, O, O] rfl rfl (any_of HT_.out (by kernel_rfl)) (fun _ _ _ h => h) (Or.inl ⟨by rfl, ?_⟩) ?_ ?_
      rotate_left; · intro w'; go_simp; with_reducible rfl
      rotate_left; · simp only [pk, i64_w, i32_w]; rfl
      refine pure_ (i := 4) (N := some 61) (v := ?_) (a' := ?_) #[I, O, I, I, I, O, O, O, O, O] rfl rfl (any_of HT_.out (by kernel_rfl)) (fun _ _ _ h => h) (Or.inl ⟨by rfl, ?_⟩) ?_ ?_
      rotate_left; · intro w'; go_simp; with_reducible rfl
      rotate_left; · simp only [pk, i64_w, i32_w]; rfl
      refine take_ (i := 1) (N := some 58) (v := ?_) (a' := ?_) #[I, I, I, I, I, O, O, O, O, O] rfl rfl (take_ofW HT_.out HW_.out (by kernel_rfl)) (fun _ _ _ h => h) (Or.inl ⟨by rfl, ?_⟩) hHeld ?_ ?_
      rotate_left; · rintro w' ⟨s0, s1, s2, s3, s4, s5, s6⟩; go_simp; with_reducible rfl
      rotate_left; · simp only [pk, i64_w, i32_w]; rfl
      refine take_ (i := 5) (N := some 62) (v := ?_) (a' := ?_) #[I, I, I, I, I, I, O, O, O, O] rfl rfl (take_ofW HT_.out HW_.out (by kernel_rfl)) (fun _ _ _ h => h) (Or.inl ⟨by rfl, ?_⟩) hHeld ?_ ?_
      rotate_left; · rintro w' ⟨s0, s1, s2, s3, s4, s5, s6⟩; go_simp; with_reducible rfl
      rotate_left; · simp only [pk, i64_w, i32_w]; rfl
      refine pure_ (i := 6) (N := some 63) (v := ?_) (a' := ?_) #[I, I, I, I, I, I, I, O, O, O] rfl rfl (any_of HT_.out (by kernel_rfl)) (fun _ _ _ h => h) (Or.inl ⟨by rfl, ?_⟩) ?_ ?_
      rotate_left; · intro w'; go_simp; with_reducible rfl
      rotate_left; · simp only [pk, i64_w, i32_w]; rfl
      refine pure_ (i := 7) (N := some 64) (v := ?_) (a' := ?_) #[I, I, I, I, I, I, I, I, O, O] rfl rfl (any_of HT_.out (by kernel_rfl)) (fun _ _ _ h => h) (Or.inl ⟨by rfl, ?_⟩) ?_ ?_
      rotate_left; · intro w'; go_simp; with_reducible rfl
      rotate_left; · simp only [pk, i64_w, i32_w]; rfl
      refine take_ (i := 8) (N := some 65) (v := ?_) (a' := ?_) #[I, I, I, I, I, I, I, I, I, O] rfl rfl (take_ofW HT_.out HW_.out (by kernel_rfl)) (fun _ _ _ h => h) (Or.inl ⟨by rfl, ?_⟩) hHeld ?_ ?_
      rotate_left; · rintro w' ⟨s0, s1, s2, s3, s4, s5, s6⟩; go_simp; with_reducible rfl
      rotate_left; · simp only [pk, i64_w, i32_w]; rfl
      refine pure_ (i := 9) (N := some 66) (v := ?_) (a' := ?_) #[I, I, I, I, I, I, I, I, I, I] rfl rfl (any_of HT_.out (by kernel_rfl)) (fun _ _ _ h => h) (Or.inl ⟨by rfl, ?_⟩) ?_ ?_
      rotate_left; · intro w'; go_simp; with_reducible rfl
      rotate_left; · simp only [pk, i64_w, i32_w]; rfl
      refine done_ (done_of HT_.out (by kernel_rfl)) ?_
      try go_wp2
      go_roundg k2
      case measure => have := HK1.out; have := HK2.out; omega
      case rel => exact ⟨(x5_2), (wrap64 (x9_2 + 1)), (by first | rfl | (simp; done) | (simp [*]; done)), H', ⟨by have := HK1.out; have := HK2.out; omega⟩, ⟨by (with_reducible repeat (first | apply Kd.R_alloc | apply Kd.R_drewN | apply Kd.R_drew)); exact HO_5.out⟩, ⟨by (with_reducible repeat (first | apply Kd.R_alloc | apply Kd.R_drewN | apply Kd.R_drew)); exact HO_8.out⟩, ⟨bx BK192.out⟩, ⟨bx BK198.out⟩, ⟨be w⟩⟩
     rw [if_pos c30] at H
     have c30b0 : (((rd_T62 l0_0 (rd t204 x9_2)).f0) == 13) = true := beq_iff_eq.mpr c30
     have c30b1 : (((rd_T62 l0_0 (rd t204 x9_2)).f0) != 13) = false := bne_eq_false_iff_eq.mpr c30
     clear c30
     by_cases c31 : x5_2.length < 4398046511104
     rotate_left; · rw [if_neg c31] at H; exact absurd H (by simp)
     rw [if_pos c31] at H
     have LMc31 := As.mk c31
     clear c31
     obtain ⟨y212, hy212⟩ : ∃ y_ : List (S60), y_ = (x5_2 ++ [(⟨(rd_T62 l0_0 (rd t204 x9_2)).f2, 0, rd t204 x9_2⟩ : S60)]) := ⟨_, rfl⟩
     replace H : (spec_VarsOf.l1 k2 y212 t204 (wrap64 (x9_2 + 1)) l0_0 l0_1) = some r := by first | (rw [hy212]; with_reducible exact H) | (have H2_ := (Option.bind_some _ _).symm.trans H; rw [hy212]; with_reducible exact H2_) | (have H2_ := (Option.bind_some _ _).symm.trans H; with_reducible exact H2_) | with_reducible exact H | (rw [hy212]; exact H) | exact H
     have Ny212 := As.mk hy212
     clear hy212
     have H' := As.mk H
     clear H
     obtain ⟨Ao32, co32, eo32⟩ := Kd.R_slice HO_8.out
     subst eo32
     try go_wp2
     replace HO_5 := As.mk (Kd.R_drew HO_5.out)
     replace HO_8 := As.mk (Kd.R_drew HO_8.out)
     replace BK192 := As.mk (blk_drew BK192.out)
     replace BK198 := As.mk (blk_drew BK198.out)
     replace HB := As.mk (below_drew1 HB.out)
     have p207 : 0 ≤ (x9_2 : Int) := od
     have q207 : x9_2 < (t204.length : Int) := od
     obtain ⟨ad207, e207, hx207_0⟩ := Kd.at_int (Kd.R_reads' HO_8.out).2.2 x9_2 p207 q207
     cases e207
     replace p207 := eq_true p207
     replace q207 := eq_true q207
     have p208 : 0 ≤ ((rd t204 x9_2) : Int) := od
     have q208 : (rd t204 x9_2) < (l0_0.length : Int) := od
     obtain ⟨ad208, A208_3, c208_3, e208, hx208_0, hx208_1, hx208_2, hx208_3, hl208_3, hi208_3⟩ := at_T62 HR0_0.out (rd t204 x9_2) p208 q208
     have hw208_3 := hx208_3
     have hw208_2 := hx208_2
     have hw208_1 := hx208_1
     have hw208_0 := hx208_0
     cases e208
     replace hx208_0 := ce HB.out hx208_0
     replace hx208_1 := ce HB.out hx208_1
     replace hx208_2 := ce HB.out hx208_2
     replace hx208_3 := ce HB.out hx208_3
     have HR208_3 := As.mk hi208_3
     have HC208_3 := As.mk hl208_3
     clear hi208_3 hl208_3
     replace p208 := eq_true p208
     replace q208 := eq_true q208
     refine start_ (n := 10) (S := fun w' => w'.cell? ⟨gb192, 0, none⟩ = some (.slice (some ad208) l0_0.length c0_0) ∧ w'.cell? ⟨gb192, 1, none⟩ = some (.slice (some ad197) l0_1.length c0_1) ∧ w'.cell? (ad207.add (x9_2).toNat) = some (.int .i64 (rd t204 x9_2)) ∧ w'.cell? (ad208.add (((rd t204 x9_2)).toNat * 4)) = some (.int .i64 ((rd_T62 l0_0 (rd t204 x9_2)).f0)) ∧ w'.cell? ⟨(ad208.add (((rd t204 x9_2)).toNat * 4)).block, (ad208.add (((rd t204 x9_2)).toNat * 4)).off + 1, none⟩ = some (.int .i64 ((rd_T62 l0_0 (rd t204 x9_2)).f1)) ∧ w'.cell? ⟨(ad208.add (((rd t204 x9_2)).toNat * 4)).block, (ad208.add (((rd t204 x9_2)).toNat * 4)).off + 2, none⟩ = some (.string ((rd_T62 l0_0 (rd t204 x9_2)).f2)) ∧ w'.cell? ⟨(ad208.add (((rd t204 x9_2)).toNat * 4)).block, (ad208.add (((rd t204 x9_2)).toNat * 4)).off + 3, none⟩ = some (.slice A208_3 ((rd_T62 l0_0 (rd t204 x9_2)).f3).length c208_3)) (ds := []) #[O, O, O, O, O, O, O, O, O, O] (by kernel_rfl) rfl rfl ⟨(blk_cell BK192.out 0).trans rfl, (blk_cell BK192.out 1).trans rfl, hx207_0, (ce HB.out hw208_0 :), (ce HB.out hw208_1 :), (ce HB.out hw208_2 :), (ce HB.out hw208_3 :)⟩ (fun hHeld => ?_); refine with_tabW spec_VarsOf.tab13 spec_VarsOf.bits13 (fun HT_ HW_ => ?_)
     generalize wr.drew = w33 at HO_5 HO_8 BK192 BK198 HB HR208_3 hx207_0 hx208_0 hx208_1 hx208_2 hx208_3 hHeld ⊢
     refine pure_ (i := 0) (N := some 57) (v := ?_) (a' := ?_) #[I, O, O, O, O, O, O, O, O, O] rfl rfl (any_of HT_.out (by kernel_rfl)) (fun _ _ _ h => h) (Or.inl ⟨by rfl, ?_⟩) ?_ ?_
     rotate_left; · intro w'; go_simp; with_reducible rfl
     rotate_left; · simp only [pk, i64_w, i32_w]; rfl
     refine pure_ (i := 2) (N := some 59) (v := ?_) (a' := ?_) #[I, O, I, O, O, O, O, O, O, O] rfl rfl (any_of HT_.out (by kernel_rfl)) (fun _ _ _ h => h) (Or.inl ⟨by rfl, ?_⟩) ?_ ?_
     rotate_left; · intro w'; go_simp; with_reducible rfl
     rotate_left; · simp only [pk, i64_w, i32_w]; rfl
     refine pure_ (i := 3) (N := some 60) (v := ?_) (a' := ?_) #[I, O, I, I, O, O, O, O, O, O] rfl rfl (any_of HT_.out (by kernel_rfl)) (fun _ _ _ h => h) (Or.inl ⟨by rfl, ?_⟩) ?_ ?_
     rotate_left; · intro w'; go_simp; with_reducible rfl
     rotate_left; · simp only [pk, i64_w, i32_w]; rfl
     refine pure_ (i := 4) (N := some 61) (v := ?_) (a' := ?_) #[I, O, I, I, I, O, O, O, O, O] rfl rfl (any_of HT_.out (by kernel_rfl)) (fun _ _ _ h => h) (Or.inl ⟨by rfl, ?_⟩) ?_ ?_
     rotate_left; · intro w'; go_simp; with_reducible rfl
     rotate_left; · simp only [pk, i64_w, i32_w]; rfl
     refine take_ (i := 1) (N := some 58) (v := ?_) (a' := ?_) #[I, I, I, I, I, O, O, O, O, O] rfl rfl (take_ofW HT_.out HW_.out (by kernel_rfl)) (fun _ _ _ h => h) (Or.inl ⟨by rfl, ?_⟩) hHeld ?_ ?_
     rotate_left; · rintro w' ⟨s0, s1, s2, s3, s4, s5, s6⟩; go_simp; with_reducible rfl
     rotate_left; · simp only [pk, i64_w, i32_w]; rfl
     refine take_ (i := 5) (N := some 62) (v := ?_) (a' := ?_) #[I, I, I, I, I, I, O, O, O, O] rfl rfl (take_ofW HT_.out HW_.out (by kernel_rfl)) (fun _ _ _ h => h) (Or.inl ⟨by rfl, ?_⟩) hHeld ?_ ?_
     rotate_left; · rintro w' ⟨s0, s1, s2, s3, s4, s5, s6⟩; go_simp; with_reducible rfl
     rotate_left; · simp only [pk, i64_w, i32_w]; rfl
     refine pure_ (i := 6) (N := some 63) (v := ?_) (a' := ?_) #[I, I, I, I, I, I, I, O, O, O] rfl rfl (any_of HT_.out (by kernel_rfl)) (fun _ _ _ h => h) (Or.inl ⟨by rfl, ?_⟩) ?_ ?_
     rotate_left; · intro w'; go_simp; with_reducible rfl
     rotate_left; · simp only [pk, i64_w, i32_w]; rfl
     refine pure_ (i := 7) (N := some 64) (v := ?_) (a' := ?_) #[I, I, I, I, I, I, I, I, O, O] rfl rfl (any_of HT_.out (by kernel_rfl)) (fun _ _ _ h => h) (Or.inl ⟨by rfl, ?_⟩) ?_ ?_
     rotate_left; · intro w'; go_simp; with_reducible rfl
     rotate_left; · simp only [pk, i64_w, i32_w]; rfl
     refine take_ (i := 8) (N := some 65) (v := ?_) (a' := ?_) #[I, I, I, I, I, I, I, I, I, O] rfl rfl (take_ofW HT_.out HW_.out (by kernel_rfl)) (fun _ _ _ h => h) (Or.inl ⟨by rfl, ?_⟩) hHeld ?_ ?_
     rotate_left; · rintro w' ⟨s0, s1, s2, s3, s4, s5, s6⟩; go_simp; with_reducible rfl
     rotate_left; · simp only [pk, i64_w, i32_w]; rfl
     refine pure_ (i := 9) (N := some 66) (v := ?_) (a' := ?_) #[I, I, I, I, I, I, I, I, I, I] rfl rfl (any_of HT_.out (by kernel_rfl)) (fun _ _ _ h => h) (Or.inl ⟨by rfl, ?_⟩) ?_ ?_
     rotate_left; · intro w'; go_simp; with_reducible rfl
     rotate_left; · simp only [pk, i64_w, i32_w]; rfl
     refine done_ (done_of HT_.out (by kernel_rfl)) ?_
     try go_wp2
     replace HO_5 := As.mk (Kd.R_drew HO_5.out)
     replace HO_8 := As.mk (Kd.R_drew HO_8.out)
     replace BK192 := As.mk (blk_drew BK192.out)
     replace BK198 := As.mk (blk_drew BK198.out)
     replace HB := As.mk (below_drew1 HB.out)
     have p209 : 0 ≤ (x9_2 : Int) := od
     have q209 : x9_2 < (t204.length : Int) := od
     obtain ⟨ad209, e209, hx209_0⟩ := Kd.at_int (Kd.R_reads' HO_8.out).2.2 x9_2 p209 q209
     obtain rfl : ad207 = ad209 := (by injection e209)
     replace p209 := eq_true p209
     replace q209 := eq_true q209
     have p210 : 0 ≤ ((rd t204 x9_2) : Int) := od
     have q210 : (rd t204 x9_2) < (l0_0.length : Int) := od
     obtain ⟨ad210, A210_3, c210_3, e210, hx210_0, hx210_1, hx210_2, hx210_3, hl210_3, hi210_3⟩ := at_T62 HR0_0.out (rd t204 x9_2) p210 q210
     have hw210_3 := hx210_3
     have hw210_2 := hx210_2
     have hw210_1 := hx210_1
     have hw210_0 := hx210_0
     obtain rfl : ad208 = ad210 := (by injection e210)
     replace hx210_0 := ce HB.out hx210_0
     replace hx210_1 := ce HB.out hx210_1
     replace hx210_2 := ce HB.out hx210_2
     replace hx210_3 := ce HB.out hx210_3
     have HR210_3 := As.mk hi210_3
     have HC210_3 := As.mk hl210_3
     clear hi210_3 hl210_3
     replace p210 := eq_true p210
     replace q210 := eq_true q210
     have p211 : 0 ≤ (x9_2 : Int) := od
     have q211 : x9_2 < (t204.length : Int) := od
     obtain ⟨ad211, e211, hx211_0⟩ := Kd.at_int (Kd.R_reads' HO_8.out).2.2 x9_2 p211 q211
     obtain rfl : ad207 = ad211 := (by injection e211)
     replace p211 := eq_true p211
     replace q211 := eq_true q211
     refine start_ (n := 18) (S := fun w' => w'.cell? ⟨gb192, 0, none⟩ = some (.slice (some ad208) l0_0.length c0_0) ∧ w'.cell? ⟨gb192, 1, none⟩ = some (.slice (some ad197) l0_1.length c0_1) ∧ w'.cell? (ad207.add (x9_2).toNat) = some (.int .i64 (rd t204 x9_2)) ∧ w'.cell? (ad208.add (((rd t204 x9_2)).toNat * 4)) = some (.int .i64 ((rd_T62 l0_0 (rd t204 x9_2)).f0)) ∧ w'.cell? ⟨(ad208.add (((rd t204 x9_2)).toNat * 4)).block, (ad208.add (((rd t204 x9_2)).toNat * 4)).off + 1, none⟩ = some (.int .i64 ((rd_T62 l0_0 (rd t204 x9_2)).f1)) ∧ w'.cell? ⟨(ad208.add (((rd t204 x9_2)).toNat * 4)).block, (ad208.add (((rd t204 x9_2)).toNat * 4)).off + 2, none⟩ = some (.string ((rd_T62 l0_0 (rd t204 x9_2)).f2)) ∧ w'.cell? ⟨(ad208.add (((rd t204 x9_2)).toNat * 4)).block, (ad208.add (((rd t204 x9_2)).toNat * 4)).off + 3, none⟩ = some (.slice A210_3 ((rd_T62 l0_0 (rd t204 x9_2)).f3).length c210_3) ∧ w'.cell? (ad207.add (x9_2).toNat) = some (.int .i64 (rd t204 x9_2))) (ds := [15, 16]) #[O, O, O, O, O, O, O, O, O, O, O, O, O, O, O, O, O, O] (by kernel_rfl) rfl rfl ⟨(blk_cell BK192.out 0).trans rfl, (blk_cell BK192.out 1).trans rfl, hx209_0, (ce HB.out hw210_0 :), (ce HB.out hw210_1 :), (ce HB.out hw210_2 :), (ce HB.out hw210_3 :), hx211_0⟩ (fun hHeld => ?_); refine with_tabW spec_VarsOf.tab14 spec_VarsOf.bits14 (fun HT_ HW_ => ?_)
     generalize w33.drew = w34 at HO_5 HO_8 BK192 BK198 HB HR210_3 hx209_0 hx210_0 hx210_1 hx210_2 hx210_3 hx211_0 hHeld ⊢
     refine pure_ (i := 0) (N := some 67) (v := ?_) (a' := ?_) #[I, O, O, O, O, O, O, O, O, O, O, O, O, O, O, O, O, O] rfl rfl (any_of HT_.out (by kernel_rfl)) (fun _ _ _ h => h) (Or.inl ⟨by rfl, ?_⟩) ?_ ?_
     rotate_left; · intro w'; go_simp; with_reducible rfl
     rotate_left; · simp only [pk, i64_w, i32_w]; rfl
     refine pure_ (i := 1) (N := some 68) (v := ?_) (a' := ?_) #[I, I, O, O, O, O, O, O, O, O, O, O, O, O, O, O, O, O] rfl rfl (any_of HT_.out (by kernel_rfl)) (fun _ _ _ h => h) (Or.inl ⟨by rfl, ?_⟩) ?_ ?_
     rotate_left; · intro w'; go_simp; with_reducible rfl
     rotate_left; · simp only [pk, i64_w, i32_w]; rfl
     refine pure_ (i := 3) (N := some 70) (v := ?_) (a' := ?_) #[I, I, O, I, O, O, O, O, O, O, O, O, O, O, O, O, O, O] rfl rfl (any_of HT_.out (by kernel_rfl)) (fun _ _ _ h => h) (Or.inl ⟨by rfl, ?_⟩) ?_ ?_
     rotate_left; · intro w'; go_simp; with_reducible rfl
     rotate_left; · simp only [pk, i64_w, i32_w]; rfl
     refine pure_ (i := 4) (N := some 71) (v := ?_) (a' := ?_) #[I, I, O, I, I, O, O, O, O, O, O, O, O, O, O, O, O, O] rfl rfl (any_of HT_.out (by kernel_rfl)) (fun _ _ _ h => h) (Or.inl ⟨by rfl, ?_⟩) ?_ ?_
     rotate_left; · intro w'; go_simp; with_reducible rfl
     rotate_left; · simp only [pk, i64_w, i32_w]; rfl
     refine pure_ (i := 5) (N := some 72) (v := ?_) (a' := ?_) #[I, I, O, I, I, I, O, O, O, O, O, O, O, O, O, O, O, O] rfl rfl (any_of HT_.out (by kernel_rfl)) (fun _ _ _ h => h) (Or.inl ⟨by rfl, ?_⟩) ?_ ?_
     rotate_left; · intro w'; go_simp; with_reducible rfl
     rotate_left; · simp only [pk, i64_w, i32_w]; rfl
     refine pure_ (i := 10) (N := some 77) (v := ?_) (a' := ?_) #[I, I, O, I, I, I, O, O, O, O, I, O, O, O, O, O, O, O] rfl rfl (any_of HT_.out (by kernel_rfl)) (fun _ _ _ h => h) (Or.inl ⟨by rfl, ?_⟩) ?_ ?_
     rotate_left; · intro w'; go_simp; with_reducible rfl
     rotate_left; · simp only [pk, i64_w, i32_w]; rfl
     refine pure_ (i := 11) (N := some 78) (v := ?_) (a' := ?_) #[I, I, O, I, I, I, O, O, O, O, I, I, O, O, O, O, O, O] rfl rfl (any_of HT_.out (by kernel_rfl)) (fun _ _ _ h => h) (Or.inl ⟨by rfl, ?_⟩) ?_ ?_
     rotate_left; · intro w'; go_simp; with_reducible rfl
     rotate_left; · simp only [pk, i64_w, i32_w]; rfl
     refine pure_ (i := 12) (N := some 79) (v := ?_) (a' := ?_) #[I, I, O, I, I, I, O, O, O, O, I, I, I, O, O, O, O, O] rfl rfl (any_of HT_.out (by kernel_rfl)) (fun _ _ _ h => h) (Or.inl ⟨by rfl, ?_⟩) ?_ ?_
     rotate_left; · intro w'; go_simp; with_reducible rfl
     rotate_left; · simp only [pk, i64_w, i32_w]; rfl
     refine take_ (i := 2) (N := some 69) (v := ?_) (a' := ?_) #[I, I, I, I, I, I, O, O, O, O, I, I, I, O, O, O, O, O] rfl rfl (take_ofW HT_.out HW_.out (by kernel_rfl)) (fun _ _ _ h => h) (Or.inl ⟨by rfl, ?_⟩) hHeld ?_ ?_
     rotate_left; · rintro w' ⟨s0, s1, s2, s3, s4, s5, s6, s7⟩; go_simp; with_reducible rfl
     rotate_left; · simp only [pk, i64_w, i32_w]; rfl
     refine take_ (i := 6) (N := some 73) (v := ?_) (a' := ?_) #[I, I, I, I, I, I, I, O, O, O, I, I, I, O, O, O, O, O] rfl rfl (take_ofW HT_.out HW_.out (by kernel_rfl)) (fun _ _ _ h => h) (Or.inl ⟨by rfl, ?_⟩) hHeld ?_ ?_
     rotate_left; · rintro w' ⟨s0, s1, s2, s3, s4, s5, s6, s7⟩; go_simp; with_reducible rfl
     rotate_left; · simp only [pk, i64_w, i32_w]; rfl
     refine pure_ (i := 7) (N := some 74) (v := ?_) (a' := ?_) #[I, I, I, I, I, I, I, I, O, O, I, I, I, O, O, O, O, O] rfl rfl (any_of HT_.out (by kernel_rfl)) (fun _ _ _ h => h) (Or.inl ⟨by rfl, ?_⟩) ?_ ?_
     rotate_left; · intro w'; go_simp; with_reducible rfl
     rotate_left; · simp only [pk, i64_w, i32_w]; rfl
     refine pure_ (i := 8) (N := some 75) (v := ?_) (a' := ?_) #[I, I, I, I, I, I, I, I, I, O, I, I, I, O, O, O, O, O] rfl rfl (any_of HT_.out (by kernel_rfl)) (fun _ _ _ h => h) (Or.inl ⟨by rfl, ?_⟩) ?_ ?_
     rotate_left; · intro w'; go_simp; with_reducible rfl
     rotate_left; · simp only [pk, i64_w, i32_w]; rfl
     refine take_ (i := 9) (N := some 76) (v := ?_) (a' := ?_) #[I, I, I, I, I, I, I, I, I, I, I, I, I, O, O, O, O, O] rfl rfl (take_ofW HT_.out HW_.out (by kernel_rfl)) (fun _ _ _ h => h) (Or.inl ⟨by rfl, ?_⟩) hHeld ?_ ?_
     rotate_left; · rintro w' ⟨s0, s1, s2, s3, s4, s5, s6, s7⟩; go_simp; with_reducible rfl
     rotate_left; · simp only [pk, i64_w, i32_w]; rfl
     refine take_ (i := 13) (N := some 80) (v := ?_) (a' := ?_) #[I, I, I, I, I, I, I, I, I, I, I, I, I, I, O, O, O, O] rfl rfl (take_ofW HT_.out HW_.out (by kernel_rfl)) (fun _ _ _ h => h) (Or.inl ⟨by rfl, ?_⟩) hHeld ?_ ?_
     rotate_left; · rintro w' ⟨s0, s1, s2, s3, s4, s5, s6, s7⟩; go_simp; with_reducible rfl
     rotate_left; · simp only [pk, i64_w, i32_w]; rfl
     refine pure_ (i := 14) (N := some 81) (v := ?_) (a' := ?_) #[I, I, I, I, I, I, I, I, I, I, I, I, I, I, I, O, O, O] rfl rfl (any_of HT_.out (by kernel_rfl)) (fun _ _ _ h => h) (Or.inl ⟨by rfl, ?_⟩) ?_ ?_
     rotate_left; · intro w'; go_simp; with_reducible rfl
     rotate_left; · simp only [pk, i64_w, i32_w]; rfl
     refine last_ (i := 15) (N := some 82) #[I, I, I, I, I, I, I, I, I, I, I, I, I, I, I, I, O, O] rfl rfl (one_of HT_.out (by kernel_rfl)) (by decide) (fun K hK => ?_)
     refine value_ (w1 := ?_) (v := ?_) (by rfl) rfl ?_ ?_
     rotate_left 2
     ·
      go_simp
      constructor
      · rfl
      · rfl
     refine hK.out _ _ ?_
     clear hK K
     refine norm_ (a' := ?_) ?_ ?_
     rotate_left
     ·
      show Act.put _ (some 82) _ = _
      simp only [pk, i64_w, i32_w]
      rfl
     refine last_ (i := 16) (N := some 83) #[I, I, I, I, I, I, I, I, I, I, I, I, I, I, I, I, I, O] rfl rfl (one_of HT_.out (by kernel_rfl)) (by decide) (fun K hK => ?_)
     refine Kd.R_append_step k60 (w0 := w) w.heap.size (by rfl) (.tmp 67) (.tmp 82) 27 60 (.agg #[(.string ⟨#[]⟩), (.int .i64 0), (.int .i64 0)]) 32 rfl Tryz.underlying27 info60 rfl (by decide) (by omega) u5 x5_2 (⟨(rd_T62 l0_0 (rd t204 x9_2)).f2, 0, rd t204 x9_2⟩ : S60) [.string ((rd_T62 l0_0 (rd t204 x9_2)).f2), .int .i64 0, .int .i64 (rd t204 x9_2)] (fun _ => True) (fun _ => False) rfl rfl ?aP (fun _ hk => hk.elim) ?aF ?aO ?aB ?aS ?aL ?_
     (case aP => exact k60_mkM _ _ _ (⟨(rd_T62 l0_0 (rd t204 x9_2)).f2, 0, rd t204 x9_2⟩ : S60))
     (case aB => exact (be w))
     (case aF => exact (fun _ _ => trivial))
     (case aO => exact (by (with_reducible repeat (first | apply Kd.R_alloc | apply Kd.R_drewN | apply Kd.R_drew)); exact HO_5.out))
     (case aS => exact (below_size (be w)))
     (case aL => have := LMc31.out; omega)
     intro v213 w35 ho hb hg hat
     rw [← Ny212.out] at ho
     replace HO_8 := As.mk (Kd.R_over' (by (with_reducible repeat (first | apply Kd.R_alloc | apply Kd.R_drewN | apply Kd.R_drew)); exact HO_8.out) (Kd.R_typed (by (with_reducible repeat (first | apply Kd.R_alloc | apply Kd.R_drewN | apply Kd.R_drew)); exact HO_5.out)) (by decide) hg)
     replace BK192 := As.mk (blk_grown (g := gb192) (o := .cells #[.slice (some ad208) l0_0.length c0_0, .slice (some ad197) l0_1.length c0_1] 32 (0, 0)) (bx BK192.out) hg (Kd.R_ne HO_5.out BK192.out (by decide)))
     replace BK198 := As.mk (blk_grown (g := gb198) (o := .cells #[.string ((rd_T56 l0_1 a1).f0), .slice A197_1 ((rd_T56 l0_1 a1).f1).length c197_1, .int .i64 ((rd_T56 l0_1 a1).f2), .int .i64 ((rd_T56 l0_1 a1).f3), .int .i64 ((rd_T56 l0_1 a1).f4)] 56 (0, 0)) (bx BK198.out) hg (Kd.R_ne HO_5.out BK198.out (by decide)))
     replace HB := As.mk (hb)
     have HO214 := As.mk (ho)
     clear HO_5
     clear ho hb hg hat
     refine hK.out _ _ ?_
     clear hK K
     refine norm_ (a' := ?_) ?_ ?_
     rotate_left
     ·
      show Act.put _ (some 83) _ = _
      simp only [pk, i64_w, i32_w]
      rfl
     refine pure_ (i := 17) (N := some 5) (v := ?_) (a' := ?_) #[I, I, I, I, I, I, I, I, I, I, I, I, I, I, I, I, I, I] rfl rfl (any_of HT_.out (by kernel_rfl)) (fun _ _ _ h => h) (Or.inl ⟨by rfl, ?_⟩) ?_ ?_
     rotate_left; · intro w'; go_simp; with_reducible rfl
     rotate_left; · simp only [pk, i64_w, i32_w]; rfl
     refine done_ (done_of HT_.out (by kernel_rfl)) ?_
     try go_wp2
     go_roundg k2
     case measure => have := HK1.out; have := HK2.out; omega
     case rel => exact ⟨(y212), (wrap64 (x9_2 + 1)), (by first | rfl | (simp; done) | (simp [*]; done)), H', ⟨by have := HK1.out; have := HK2.out; omega⟩, ⟨by (with_reducible repeat (first | apply Kd.R_alloc | apply Kd.R_drewN | apply Kd.R_drew)); exact HO214.out⟩, ⟨by (with_reducible repeat (first | apply Kd.R_alloc | apply Kd.R_drewN | apply Kd.R_drew)); exact HO_8.out⟩, ⟨bx BK192.out⟩, ⟨bx BK198.out⟩, ⟨be w⟩⟩
/-! ### laws_toIntS: function 92 -/
def laws_toIntS.l0 : Nat → List Int → List Int → Int → Option (List Int)
 | 0, _, _, _ => none
 | k + 1, x0, x3, x4 => if x4 < (x0.length : Int) then (if 0 ≤ x4 then (if x4 < (x3.length : Int) then (laws_toIntS.l0 k x0 (x3.set (x4 : Int).toNat (rd x0 x4)) (wrap64 (x4 + 1))) else (none)) else (none)) else (some x3)
def laws_toIntS.f (k : Nat) (l0 : List Int) : Option (List Int) := if 0 ≤ (l0.length : Int) then (if ((l0.length : Int) : Int).toNat ≤ 35184372088832 then (laws_toIntS.l0 k l0 (List.replicate ((l0.length : Int) : Int).toNat 0) 0) else (none)) else (none)
theorem laws_toIntS.mono_l : ∀ k, (∀ y0 y1 y2, LeO (laws_toIntS.l0 k y0 y1 y2) (laws_toIntS.l0 (k + 1) y0 y1 y2))
 | 0 => fun _ _ _ r h => by simp [laws_toIntS.l0] at h
 | k + 1 => by
  have ih0 := laws_toIntS.mono_l k
  ·
   intro y0 y1 y2
   unfold laws_toIntS.l0
   with_reducible repeat' first | exact ih0 _ _ _ | exact LeO.refl _ | exact LeO.none _ | refine LeO.ite ?_ ?_ | refine LeO.bind ?_ (fun _ => ?_)
theorem laws_toIntS.mono : ∀ a0 k, LeO (laws_toIntS.f k a0) (laws_toIntS.f (k + 1) a0) := by
 intro a0 k
 have ih0 := laws_toIntS.mono_l k
 unfold laws_toIntS.f
 with_reducible repeat' first | exact ih0 _ _ _ | exact LeO.refl _ | exact LeO.none _ | refine LeO.ite ?_ ?_ | refine LeO.bind ?_ (fun _ => ?_)
set_option maxHeartbeats 8000000 in
set_option maxRecDepth 100000 in
theorem laws_toIntS.calls (k : Nat) (A0 : Option Addr) (c0 : Nat) (l0 : List Int) (r : List Int) (w : World) (hr0 : Kd.C (Kd.int .i64) w A0 l0.length l0) (hc0 : l0.length ≤ c0) (h : laws_toIntS.f k l0 = some r) :
  Calls Tryz.prog 92 #[.slice A0 l0.length c0] w fun e w' => ∃ v0_ : Value, e = .returned (v0_) ∧ Kd.R (Kd.int .i64) 3 w' w.heap.size (fun _ => True) v0_ r ∧ Below w.heap.size w w' := by
 have HR0 := As.mk hr0
 have HC0 := As.mk hc0
 clear hr0 hc0
 have HB := As.mk (Below.refl w.heap.size w)
 have H : (if 0 ≤ (l0.length : Int) then (if ((l0.length : Int) : Int).toNat ≤ 35184372088832 then (laws_toIntS.l0 k l0 (List.replicate ((l0.length : Int) : Int).toNat 0) 0) else (none)) else (none)) = some r := h
 clear h
 by_cases c2 : 0 ≤ (l0.length : Int)
 rotate_left; · rw [if_neg c2] at H; exact absurd H (by simp)

 rw [if_pos c2] at H
 have c2b0 := eq_true c2
 have c2b1 : decide (0 ≤ (l0.length : Int)) = true := decide_eq_true c2
 clear c2
 by_cases c3 : ((l0.length : Int) : Int).toNat ≤ 35184372088832
 rotate_left; · rw [if_neg c3] at H; exact absurd H (by simp)
 rw [if_pos c3] at H
 have c3b0 := eq_true c3
 have c3b1 : decide (((l0.length : Int) : Int).toNat ≤ 35184372088832) = true := decide_eq_true c3
 clear c3
 obtain ⟨y215, hy215⟩ : ∃ y_ : List Int, y_ = (List.replicate ((l0.length : Int) : Int).toNat 0) := ⟨_, rfl⟩
 replace H : (laws_toIntS.l0 k l0 y215 0) = some r := by first | (rw [hy215]; with_reducible exact H) | (have H2_ := (Option.bind_some _ _).symm.trans H; rw [hy215]; with_reducible exact H2_) | (have H2_ := (Option.bind_some _ _).symm.trans H; with_reducible exact H2_) | with_reducible exact H | (rw [hy215]; exact H) | exact H
 have Ny215 := As.mk hy215
 clear hy215
 have H' := As.mk H
 clear H
 go_enter Tryz.func92, Tryz.ntmps92
 go_wp2_with (first | ((with_reducible refine gate_dst (N := 7) rfl ?_); refine Kd.R_make (Kd.int .i64) _ 3 rfl (N := 7) rfl 45 _ _ rfl (l0.length : Int) rfl rfl Tryz.underlying45 (.int .i64 0) 8 info3 rfl (by decide) (by omega) 0 (ok := fun _ => True) (okp := fun _ => True) rfl (fun _ hk => hk) trivial (of_decide_eq_true (by first | (with_reducible assumption) | assumption)) (Nat.le_trans (Nat.mul_le_mul_right _ (of_decide_eq_true (by first | (with_reducible assumption) | assumption) : (l0.length : Int).toNat ≤ 35184372088832)) (by omega)) (Below.refl _ _) (Nat.le_refl _) ?_; intro v216 w4 ho5 hb hg_ hnew_; clear hg_ hnew_; (first | rw [← Ny215.out] at ho5 | (simp only [Int.reduceToNat] at ho5; rw [← Ny215.out] at ho5)); have HO217 := As.mk (Kd.R_lower ho5 (below_size (be w))); replace HB := As.mk (below_step (be w) hb); clear hb ho5))
 go_loopg [4] k (fun kq v4 w' => ∃ (x3_1 : List Int) (x4_1 : Int), v4 = .int .i64 x4_1 ∧ As (laws_toIntS.l0 kq l0 x3_1 x4_1 = some r) ∧ As (kq ≤ k) ∧ As (Kd.R (Kd.int .i64) 3 w' w.heap.size (fun _ => True) v216 x3_1) ∧ As (Below w.heap.size w w'))
 case atStart => exact ⟨(y215), (0), (by first | rfl | (simp; done) | (simp [*]; done)), H', ⟨Nat.le_refl _⟩, ⟨by (with_reducible repeat (first | apply Kd.R_alloc | apply Kd.R_drewN | apply Kd.R_drew)); exact HO217.out⟩, ⟨be w⟩⟩
 case round =>
  clear H'
  (try clear c2); (try clear c2b0); (try clear c2b1); (try clear c3); (try clear c3b0); (try clear c3b1)
  obtain ⟨x3_1, x4_1, rfl, HA, HK1, HO_3, HB⟩ := hrel
  cases gk with
  | zero => exact absurd HA.out (by simp [laws_toIntS.l0])
  | succ k1 =>
   have H := HA.out
   clear HA
   simp only [laws_toIntS.l0] at H
   by_cases c6 : x4_1 < (l0.length : Int)
   rotate_left
   ·
    rw [if_neg c6] at H
    have c6b0 : decide (x4_1 < (l0.length : Int)) = false := decide_eq_false c6
    clear c6
    obtain rfl := Option.some.inj H
    go_wp2
    go_ret
    exact ⟨_, ez, by (with_reducible repeat (first | apply Kd.R_alloc | apply Kd.R_drewN | apply Kd.R_drew)); exact HO_3.out, be w⟩
   rw [if_pos c6] at H
   have c6b0 : decide (x4_1 < (l0.length : Int)) = true := decide_eq_true c6
   clear c6
   by_cases c7 : 0 ≤ x4_1
   rotate_left; · rw [if_neg c7] at H; exact absurd H (by simp)
   rw [if_pos c7] at H
   have c7b0 : decide (0 ≤ x4_1) = true := decide_eq_true c7
   clear c7
   by_cases c8 : x4_1 < (x3_1.length : Int)
   rotate_left; · rw [if_neg c8] at H; exact absurd H (by simp)
   rw [if_pos c8] at H
   have c8b0 : decide (x4_1 < (x3_1.length : Int)) = true := decide_eq_true c8
   clear c8
   obtain ⟨y219, hy219⟩ : ∃ y_ : List Int, y_ = (x3_1.set (x4_1 : Int).toNat (rd l0 x4_1)) := ⟨_, rfl⟩
   replace H : (laws_toIntS.l0 k1 l0 y219 (wrap64 (x4_1 + 1))) = some r := by first | (rw [hy219]; with_reducible exact H) | (have H2_ := (Option.bind_some _ _).symm.trans H; rw [hy219]; with_reducible exact H2_) | (have H2_ := (Option.bind_some _ _).symm.trans H; with_reducible exact H2_) | with_reducible exact H | (rw [hy219]; exact H) | exact H
   have Ny219 := As.mk hy219
   clear hy219
   have H' := As.mk H
   clear H
   have p218 : 0 ≤ (x4_1 : Int) := od
   have q218 : x4_1 < (l0.length : Int) := od
   obtain ⟨ad218, e218, hx218_0⟩ := Kd.at_int HR0.out x4_1 p218 q218
   cases e218
   replace hx218_0 := ce HB.out hx218_0
   replace p218 := eq_true p218
   replace q218 := eq_true q218
   have p9 : 0 ≤ (x4_1 : Int) := od
   have q9 : (x4_1 : Int) < ((x3_1.length : Int) : Int) := od
   obtain ⟨go9, co9, eo9, gb9, gl9, cl9, HG9⟩ := Kd.R_form HO_3.out (by omega)
   (first | cases eo9 | (injection eo9 with ea_ en_ ec_; (first | subst ea_ | (injection ea_ with ea_; subst ea_)); subst ec_; clear en_))
   have GB9 := As.mk gb9
   have GG9 := As.mk HG9
   clear gb9 gl9 HG9
   obtain ⟨hx9_0, hf9_0⟩ := Kd.R_celln 0 HO_3.out (x4_1 : Int) p9 q9
   replace p9 := eq_true p9
   replace q9 := eq_true q9
   have HP10 := Kd.R_putg HO_3.out (x4_1 : Int) (rd l0 x4_1)
   go_wp2_with (first | ((with_reducible refine gate_store (t := 3) (p := 20) rfl ?_); refine store_event (t := 3) (p := 20) (v := ?vo_w11) (w1 := (wr.setCell ⟨go9, (x4_1 : Int).toNat, none⟩ (.int .i64 (rd l0 x4_1)))) ?hg ?ho ?hn ?hr ?_; (case ho => rfl); (case hg => rfl); (case hn => rfl); (case hr => first | (go_simp; done) | (go_simp; rfl)); intro w11 hw; have hg : wr.grownBy w11 (some go9) := (by rw [hw]; exact HP10.2); have hp_ : Kd.R (Kd.int .i64) 3 w11 w.heap.size (fun _ => True) (.slice (some ⟨go9, 0, none⟩) x3_1.length co9) y219 := (by rw [hw, Ny219.out]; exact HP10.1); clear HP10; replace HO_3 := As.mk (hp_); replace HB := As.mk ((by rw [hw]; exact below_set (HB.out) GB9.out : Below w.heap.size w w11)); clear hg hw hp_))
   go_roundg k1
   case measure => have := HK1.out; omega
   case rel => exact ⟨(y219), (wrap64 (x4_1 + 1)), (by first | rfl | (simp; done) | (simp [*]; done)), H', ⟨by have := HK1.out; omega⟩, ⟨by (with_reducible repeat (first | apply Kd.R_alloc | apply Kd.R_drewN | apply Kd.R_drew)); exact HO_3.out⟩, ⟨be w⟩⟩
/-! ### laws_toNode: function 66 -/
def laws_toNode.f (k : Nat) (a0_0 : Int) (a0_1 : Int) (a0_2 : ByteArray) (l0_3 : List Int) : Option (Int × Int × ByteArray × List Int) := (laws_toIntS.f k l0_3).bind fun t223 => (some (a0_0, a0_1, a0_2, t223))
theorem laws_toNode.mono : ∀ a0 a1 a2 a3 k, LeO (laws_toNode.f k a0 a1 a2 a3) (laws_toNode.f (k + 1) a0 a1 a2 a3) := by
 intro a0 a1 a2 a3 k
 unfold laws_toNode.f
 with_reducible repeat' first | exact laws_toIntS.mono _ _ | exact LeO.refl _ | exact LeO.none _ | refine LeO.ite ?_ ?_ | refine LeO.bind ?_ (fun _ => ?_)
set_option maxHeartbeats 8000000 in
set_option maxRecDepth 100000 in
theorem laws_toNode.calls (k : Nat) (a0_0 : Int) (a0_1 : Int) (a0_2 : ByteArray) (A0_3 : Option Addr) (c0_3 : Nat) (l0_3 : List Int) (r1 : Int) (r2 : Int) (r3 : ByteArray) (r4 : List Int) (w : World) (hr0_3 : Kd.C (Kd.int .i64) w A0_3 l0_3.length l0_3) (hc0_3 : l0_3.length ≤ c0_3) (h : laws_toNode.f k a0_0 a0_1 a0_2 l0_3 = some (r1, r2, r3, r4)) :
  Calls Tryz.prog 66 #[.agg #[.int .i64 a0_0, .int .i64 a0_1, .string a0_2, .slice A0_3 l0_3.length c0_3]] w fun e w' => ∃ v3_ : Value, e = .returned (.agg #[.int .i64 r1, .int .i64 r2, .string r3, v3_]) ∧ Kd.R (Kd.int .i64) 3 w' w.heap.size (fun _ => True) v3_ r4 ∧ Below w.heap.size w w' := by
 have hu80 := Tryz.underlying80
 have hu62 := Tryz.underlying62
 have HR0_3 := As.mk hr0_3
 have HC0_3 := As.mk hc0_3
 clear hr0_3 hc0_3
 have HB := As.mk (Below.refl w.heap.size w)
 have H : ((laws_toIntS.f k l0_3).bind fun t223 => (some (a0_0, a0_1, a0_2, t223))) = some (r1, r2, r3, r4) := h
 clear h
 obtain ⟨t223, A20, H⟩ := Option.bind_eq_some_iff.mp H
 try dsimp only at H
 have A2 := As.mk A20
 clear A20
 simp only [Option.some.injEq, Prod.mk.injEq] at H
 obtain ⟨rfl, rfl, rfl, rfl⟩ := H
 go_enter Tryz.func66, Tryz.ntmps66
 go_wp2_with (first | ((with_reducible refine gate_dst (N := 1) rfl ?_); refine box_event ?hg (N := 1) ?hd (cs := #[.int .i64 a0_0, .int .i64 a0_1, .string a0_2, .slice A0_3 l0_3.length c0_3]) (t := 80) ?hr ?_; (case hd => rfl); (case hg => rfl); (case hr => first | (go_simp; done) | (go_simp; rfl)); intro gb220 hg w3 hbox hb; have BK220 := As.mk (hbox); have GW220 := As.mk (gs w hg); have GE220 := As.mk (gs w hg); replace HB := As.mk (below_step (be w) hb); clear hb hbox hg) | ((with_reducible refine gate_dst (N := 2) rfl ?_); refine box_event ?hg (N := 2) ?hd (cs := #[.int .i64 0, .int .i64 0, .string (⟨#[]⟩ : ByteArray), .slice none 0 0]) (t := 62) ?hr ?_; (case hd => rfl); (case hg => rfl); (case hr => first | (go_simp; done) | (go_simp; rfl)); intro gb221 hg w4 hbox hb; have BK221 := As.mk (hbox); have GW221 := As.mk (gs w hg); have GE221 := As.mk (gs w hg); replace HB := As.mk (below_step (be w) hb); have NB220_221 := As.mk (nl hg (bx BK220.out)); have NB221_220 := As.mk (ng hg (bx BK220.out)); replace BK220 := As.mk (blk_below (bx BK220.out) hb); clear hb hbox hg) | ((with_reducible refine gate_dst (N := 3) rfl ?_); refine box_event ?hg (N := 3) ?hd (cs := #[.int .i64 0, .int .i64 0, .string (⟨#[]⟩ : ByteArray), .slice none 0 0]) (t := 62) ?hr ?_; (case hd => rfl); (case hg => rfl); (case hr => first | (go_simp; done) | (go_simp; rfl)); intro gb222 hg w5 hbox hb; have BK222 := As.mk (hbox); have GW222 := As.mk (gs w hg); have GE222 := As.mk (gs w hg); replace HB := As.mk (below_step (be w) hb); have NB220_222 := As.mk (nl hg (bx BK220.out)); have NB222_220 := As.mk (ng hg (bx BK220.out)); replace BK220 := As.mk (blk_below (bx BK220.out) hb); have NB221_222 := As.mk (nl hg (bx BK221.out)); have NB222_221 := As.mk (ng hg (bx BK221.out)); replace BK221 := As.mk (blk_below (bx BK221.out) hb); clear hb hbox hg; have hnb6 := NB220_221.out; have hnc6 := NB221_220.out; have hnb7 := NB220_222.out; have hnc7 := NB222_220.out; obtain ⟨hcz8_0, hcz8_1, hcz8_2, hcz8_3, hfz8_0, hfz8_1, hfz8_2, hfz8_3⟩ := cl4 BK220.out; have hnb9 := NB222_221.out; have hnc9 := NB221_222.out; obtain ⟨hcz10_0, hcz10_1, hcz10_2, hcz10_3, hfz10_0, hfz10_1, hfz10_2, hfz10_3⟩ := cl4 BK222.out) | ((with_reducible refine gate_callee (f := 92) rfl ?_); refine goesL_ (some 15) rfl rfl Tryz.func92 (by kernel_rfl) rfl #[.slice A0_3 l0_3.length c0_3] rfl (by (try simp only [lm]); first | done | rfl | (simp only [List.length_drop, List.length_take]; rfl)) ?_; (with_reducible refine (laws_toIntS.calls k _ _ l0_3 t223 _ ?side1 ?side2 A2.out).mono ?_); (case side1 => exact Kd.C_below HR0_3.out (be w)); (case side2 => exact HC0_3.out); rintro e w11 ⟨v224, rfl, ho0, hb⟩; refine ⟨_, rfl, ?_⟩; have HO225 := As.mk (Kd.R_lower ho0 (below_size (be w))); replace BK220 := As.mk (blk_below (g := gb220) (o := .cells #[.int .i64 a0_0, .int .i64 a0_1, .string a0_2, .slice A0_3 l0_3.length c0_3] 80 (0, 0)) (by refine pl ?_; refine blk_far ?_ NB220_222.out _; refine pl ?_; refine blk_far ?_ NB220_222.out _; refine pl ?_; refine blk_far ?_ NB220_222.out _; exact bx BK220.out) hb); replace BK221 := As.mk (blk_below (g := gb221) (o := .cells #[.int .i64 0, .int .i64 0, .string (⟨#[]⟩ : ByteArray), .slice none 0 0] 62 (0, 0)) (by refine pl ?_; refine blk_far ?_ NB221_222.out _; refine pl ?_; refine blk_far ?_ NB221_222.out _; refine pl ?_; refine blk_far ?_ NB221_222.out _; exact bx BK221.out) hb); replace BK222 := As.mk (blk_below (g := gb222) (o := .cells #[.int .i64 a0_0, .int .i64 a0_1, .string a0_2, .slice none 0 0] 62 (0, 0)) (by refine pl ?_; refine blk_put (cs := #[.int .i64 a0_0, .int .i64 a0_1, .string (⟨#[]⟩ : ByteArray), .slice none 0 0]) ?_ 2 _ rfl; refine pl ?_; refine blk_put (cs := #[.int .i64 a0_0, .int .i64 0, .string (⟨#[]⟩ : ByteArray), .slice none 0 0]) ?_ 1 _ rfl; refine pl ?_; refine blk_put (cs := #[.int .i64 0, .int .i64 0, .string (⟨#[]⟩ : ByteArray), .slice none 0 0]) ?_ 0 _ rfl; exact bx BK222.out) hb); replace HB := As.mk (below_step (be w) hb); (try clear hb); (try clear hb2); (try clear hk); (try clear hi); (try clear ho0); obtain ⟨Ao12, co12, eo12⟩ := Kd.R_slice HO225.out; subst eo12; obtain ⟨hcz13_0, hcz13_1, hcz13_2, hcz13_3, hfz13_0, hfz13_1, hfz13_2, hfz13_3⟩ := cl4 BK222.out; obtain ⟨hcz14_0, hcz14_1, hcz14_2, hcz14_3, hfz14_0, hfz14_1, hfz14_2, hfz14_3⟩ := cl4 BK221.out))
 refine bodyPost_ret (results_cell_row rfl _ _ gb221 62 #[.int .i64 a0_0, .int .i64 a0_1, .string a0_2, .slice Ao12 t223.length co12] (0, 0) _ rfl (by refine pl ?_; refine blk_put (cs := #[.int .i64 a0_0, .int .i64 a0_1, .string a0_2, .slice none 0 0]) ?_ 3 _ rfl; refine pl ?_; refine blk_put (cs := #[.int .i64 a0_0, .int .i64 a0_1, .string (⟨#[]⟩ : ByteArray), .slice none 0 0]) ?_ 2 _ rfl; refine pl ?_; refine blk_put (cs := #[.int .i64 a0_0, .int .i64 0, .string (⟨#[]⟩ : ByteArray), .slice none 0 0]) ?_ 1 _ rfl; refine pl ?_; refine blk_put (cs := #[.int .i64 0, .int .i64 0, .string (⟨#[]⟩ : ByteArray), .slice none 0 0]) ?_ 0 _ rfl; refine pl ?_; refine blk_far ?_ NB221_222.out _; exact bx BK221.out) Tryz.underlying62 rfl (by kernel_rfl)) rfl ?_
 exact ⟨_, ez, by (with_reducible repeat (first | apply Kd.R_alloc | apply Kd.R_drewN | apply Kd.R_drew)); exact Kd.R_mono (Kd.R_far (p := ⟨gb221, 3, none⟩) (Kd.R_far (p := ⟨gb221, 2, none⟩) (Kd.R_far (p := ⟨gb221, 1, none⟩) (Kd.R_far (p := ⟨gb221, 0, none⟩) (Kd.R_far (p := ⟨gb222, 3, none⟩) (Kd.R_types (Kd.R_types HO225.out BK222.out (by decide)) BK221.out (by decide)) (fun _ hk => hk.1.2) (.slice Ao12 t223.length co12)) (fun _ hk => hk.2) (.int .i64 a0_0)) (fun _ hk => hk.2) (.int .i64 a0_1)) (fun _ hk => hk.2) (.string a0_2)) (fun _ hk => hk.2) (.slice Ao12 t223.length co12)) (fun _ hk => trivial), be w⟩

end Go.Proofs.YtcoapbnbakmkoaaGreatDoor.PFnExactVarsOf
