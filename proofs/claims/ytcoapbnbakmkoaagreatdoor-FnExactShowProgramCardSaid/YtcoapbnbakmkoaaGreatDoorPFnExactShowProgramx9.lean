/- Written by a program of this session (a turned copy of the kit's print): a contract for each Go function. No condition beside those in each statement. -/
import Derived.Test.YtcoapbnbakmkoaaGreatDoorPFnExactShowProgramx0
import Derived.Test.YtcoapbnbakmkoaaGreatDoorPFnExactShowProgramx3
import Derived.Test.YtcoapbnbakmkoaaGreatDoorPFnExactShowProgramx8
namespace Go.Proofs.YtcoapbnbakmkoaaGreatDoor.PFnExactShowProgram
open Go.RowKit Go.Proofs.YtcoapbnbakmkoaaGreatDoor.Given Go.Proofs.YtcoapbnbakmkoaaGreatDoorW.PrintWords Go.Proofs.YtcoapbnbakmkoaaGreatDoorW.PrintLast Go.Proofs.YtcoapbnbakmkoaaGreatDoorW.PrintMore
attribute [local go_sem] max2_int min2_int max_two min_two max_three min_three max_four min_four   -- for this text's walks alone
set_option linter.unusedVariables false
set_option linter.unusedSimpArgs false

/-! ### spec_Decimal: function 78 -/
def spec_Decimal.l0 : Nat → Int → Bool → ByteArray → Option (ByteArray)
 | 0, _, _, _ => none
 | k + 1, x0, x3, x4 => if x0 = 0 then (if x3 = true then (if 1 + x4.size ≤ 9223372036854775807 then (some ((⟨#[45]⟩ : ByteArray) ++ x4)) else (none)) else (some x4)) else (if (Int.tmod x0 10) < 0 then ((spec_l01Figure.f (wrap64 (-(Int.tmod x0 10)))).bind fun t297 => ((some (([t297] : List Int) : List Int)).bind fun y298 => (if (strOfNums y298).size + x4.size ≤ 9223372036854775807 then (spec_Decimal.l0 k (wrap64 (Int.tdiv x0 10)) x3 ((strOfNums y298) ++ x4)) else (none)))) else ((spec_l01Figure.f (Int.tmod x0 10)).bind fun t301 => ((some (([t301] : List Int) : List Int)).bind fun y302 => (if (strOfNums y302).size + x4.size ≤ 9223372036854775807 then (spec_Decimal.l0 k (wrap64 (Int.tdiv x0 10)) x3 ((strOfNums y302) ++ x4)) else (none)))))
def spec_Decimal.f (k : Nat) (a0 : Int) : Option (ByteArray) := if a0 = 0 then (some (⟨#[48]⟩ : ByteArray)) else (spec_Decimal.l0 k a0 (decide (a0 < 0)) (⟨#[]⟩ : ByteArray))
theorem spec_Decimal.mono_l : ∀ k, (∀ y0 y1 y2, LeO (spec_Decimal.l0 k y0 y1 y2) (spec_Decimal.l0 (k + 1) y0 y1 y2))
 | 0 => fun _ _ _ r h => by simp [spec_Decimal.l0] at h
 | k + 1 => by
  have ih0 := spec_Decimal.mono_l k
  ·
   intro y0 y1 y2
   unfold spec_Decimal.l0
   with_reducible repeat' first | exact ih0 _ _ _ | exact LeO.refl _ | exact LeO.none _ | refine LeO.ite ?_ ?_ | refine LeO.bind ?_ (fun _ => ?_)
theorem spec_Decimal.mono : ∀ a0 k, LeO (spec_Decimal.f k a0) (spec_Decimal.f (k + 1) a0) := by
 intro a0 k; have ih0 := spec_Decimal.mono_l k
 unfold spec_Decimal.f
 with_reducible repeat' first | exact ih0 _ _ _ | exact LeO.refl _ | exact LeO.none _ | refine LeO.ite ?_ ?_ | refine LeO.bind ?_ (fun _ => ?_)
set_option maxHeartbeats 8000000 in
set_option maxRecDepth 100000 in
theorem spec_Decimal.calls (k : Nat) (a0 : Int) (r : ByteArray) (w : World) (h : spec_Decimal.f k a0 = some r) :
  Calls Tryz.prog 78 #[.int .i64 a0] w fun e w' => e = .returned (.string r) ∧ Below w.heap.size w w' := by
 have HB := As.mk (Below.refl w.heap.size w); have H : (if a0 = 0 then (some (⟨#[48]⟩ : ByteArray)) else (spec_Decimal.l0 k a0 (decide (a0 < 0)) (⟨#[]⟩ : ByteArray))) = some r := h; clear h
 by_cases c2 : a0 = 0
 ·
  rw [if_pos c2] at H; have c2b0 : (a0 == 0) = true := beq_iff_eq.mpr c2; have c2b1 : (a0 != 0) = false := bne_eq_false_iff_eq.mpr c2; clear c2; obtain rfl := sj H; go_enter Tryz.func78, Tryz.ntmps78
  go_wp2
  go_ret
  exact ⟨ez, be w⟩
 rw [if_neg c2] at H; have c2b0 : (a0 == 0) = false := beq_eq_false_iff_ne.mpr c2; have c2b1 : (a0 != 0) = true := bne_iff_ne.mpr c2; have H' := As.mk H; clear H; go_enter Tryz.func78, Tryz.ntmps78
 go_wp2
 go_loopg [0, 4] k (fun kq v0 v4 w' => ∃ (x0_1 : Int) (x4_1 : ByteArray), v0 = .int .i64 x0_1 ∧ v4 = .string x4_1 ∧ As (spec_Decimal.l0 kq x0_1 (decide (a0 < 0)) x4_1 = some r) ∧ As (kq ≤ k) ∧ As (Below w.heap.size w w'))
 case atStart => exact ⟨(a0), ((⟨#[]⟩ : ByteArray)), (by first | rfl | (simp; done) | (simp [*]; done)), (by first | rfl | (simp; done) | (simp [*]; done)), H', ⟨Nat.le_refl _⟩, ⟨be w⟩⟩
 case round =>
  clear H'; (try clear c2); (try clear c2b0); (try clear c2b1); obtain ⟨x0_1, x4_1, rfl, rfl, HA, HK1, HB⟩ := hrel
  cases gk with
  | zero => exact absurd HA.out (by simp [spec_Decimal.l0])
  | succ k1 =>
   have H := HA.out; clear HA
   simp only [spec_Decimal.l0] at H
   by_cases c3 : x0_1 = 0
   ·
    rw [if_pos c3] at H; have c3b0 : (x0_1 == 0) = true := beq_iff_eq.mpr c3; have c3b1 : (x0_1 != 0) = false := bne_eq_false_iff_eq.mpr c3; clear c3
    by_cases c4 : (decide (a0 < 0)) = true
    rotate_left
    ·
     rw [if_neg c4] at H
     have c4b0 : (decide (a0 < 0)) = false := by simpa using c4
     clear c4; obtain rfl := sj H
     go_wp2
     all_goals (try (exfalso; first | (have hq_ := of_decide_eq_true c4b0; omega) | (have hq_ := of_decide_eq_false c4b0; omega) | (have hq_ := of_decide_eq_true c4b0; omega) | (have hq_ := of_decide_eq_false c4b0; omega); done))
     go_ret
     exact ⟨ez, be w⟩
    rw [if_pos c4] at H; have c4b0 : (decide (a0 < 0)) = true := c4; clear c4; replace H := il H; obtain ⟨c5, c5b0, c5b1, c5b2, H⟩ := H; obtain rfl := sj H
    go_wp2
    all_goals (try (exfalso; first | (have hq_ := of_decide_eq_true c4b0; omega) | (have hq_ := of_decide_eq_false c4b0; omega); done))
    go_ret
    exact ⟨ez, be w⟩
   rw [if_neg c3] at H; have c3b0 : (x0_1 == 0) = false := beq_eq_false_iff_ne.mpr c3; have c3b1 : (x0_1 != 0) = true := bne_iff_ne.mpr c3
   by_cases c6 : (Int.tmod x0_1 10) < 0
   rotate_left
   ·
    rw [if_neg c6] at H; have c6b0 := decide_eq_false c6; clear c6; replace H := bo H; obtain ⟨t301, A12, H⟩ := H
    obtain ⟨y302, hy302⟩ : ∃ y_ : List Int, y_ = (([t301] : List Int)) := ⟨_, rfl⟩
    replace H : (if (strOfNums y302).size + x4_1.size ≤ 9223372036854775807 then (spec_Decimal.l0 k1 (wrap64 (Int.tdiv x0_1 10)) (decide (a0 < 0)) ((strOfNums y302) ++ x4_1)) else (none)) = some r := by first | (rw [hy302]; with_reducible exact H) | (have H2_ := (Option.bind_some _ _).symm.trans H; rw [hy302]; with_reducible exact H2_) | (have H2_ := (Option.bind_some _ _).symm.trans H; with_reducible exact H2_) | with_reducible exact H | (rw [hy302]; exact H) | exact H
    have Ny302 := As.mk hy302; clear hy302
    by_cases c13 : (strOfNums y302).size + x4_1.size ≤ 9223372036854775807
    rotate_left; · rw [if_neg c13] at H; exact absurd H (by simp)

    rw [if_pos c13] at H; have c13b0 := eq_true c13; have c13b1 := decide_eq_true c13
    try have c13b2 := eq_false (Nat.not_lt.2 c13)
    have H' := As.mk H; clear H
    go_wp2_with (first | ((with_reducible refine gate_callee (f := 105) rfl ?_); refine goL (some 19) Tryz.func105 #[.int .i64 (Int.tmod x0_1 10)] ?_; (with_reducible refine (spec_l01Figure.calls (Int.tmod x0_1 10) t301 _ A12.out).mono ?_); rintro e w' ⟨rfl, ⟨nd, rfl⟩⟩; refine ⟨_, rfl, ?_⟩) | ((with_reducible refine gate_dst (N := 20) rfl ?_); refine Kd.R_lit (Kd.int .u8) _ 5 ?hg (N := 20) ?hd (xs := ([t301] : List Int)) (inner := [.int .u8 t301]) (ok := fun _ => True) (okp := fun _ => True) ?hr ?hp (fun _ hk => hk) trivial (Below.refl _ _) (Nat.le_refl _) (by simp) ?_; (case hd => rfl); (case hg => rfl); (case hr => first | (go_simp; done) | (go_simp; rfl)); (case hp => exact (Reps.one (show Kd.M (Kd.int .u8) _ _ _ t301 [.int .u8 t301] from rfl) (Reps.none _ _))); intro v303 w14 ho15 hb hg_ hnew_; clear hg_ hnew_; (first | rw [← Ny302.out] at ho15 | (simp only [Int.reduceToNat] at ho15; rw [← Ny302.out] at ho15)); have HO304 := As.mk (Kd.R_lower ho15 (below_size (be w))); replace HB := bs w hb; clear hb ho15; have hcv16 := own_string (P := Tryz.prog) Tryz.underlying90 Tryz.underlying5 Tryz.underlying9 (Kd.own_of_R HO304.out)))
    go_roundg k1
    case measure => have := HK1.out; omega
    case rel => exact ⟨(wrap64 (Int.tdiv x0_1 10)), ((strOfNums y302) ++ x4_1), (by first | rfl | (simp; done) | (simp [*]; done)), (by first | rfl | (simp; done) | (simp [*]; done)), H', ⟨by have := HK1.out; omega⟩, ⟨be w⟩⟩
   rw [if_pos c6] at H; have c6b0 := decide_eq_true c6; clear c6; replace H := bo H; obtain ⟨t297, A7, H⟩ := H
   obtain ⟨y298, hy298⟩ : ∃ y_ : List Int, y_ = (([t297] : List Int)) := ⟨_, rfl⟩
   replace H : (if (strOfNums y298).size + x4_1.size ≤ 9223372036854775807 then (spec_Decimal.l0 k1 (wrap64 (Int.tdiv x0_1 10)) (decide (a0 < 0)) ((strOfNums y298) ++ x4_1)) else (none)) = some r := by first | (rw [hy298]; with_reducible exact H) | (have H2_ := (Option.bind_some _ _).symm.trans H; rw [hy298]; with_reducible exact H2_) | (have H2_ := (Option.bind_some _ _).symm.trans H; with_reducible exact H2_) | with_reducible exact H | (rw [hy298]; exact H) | exact H
   have Ny298 := As.mk hy298; clear hy298; replace H := il H; obtain ⟨c8, c8b0, c8b1, c8b2, H⟩ := H; have H' := As.mk H; clear H
   go_wp2_with (first | ((with_reducible refine gate_callee (f := 105) rfl ?_); refine goL (some 19) Tryz.func105 #[.int .i64 (wrap64 (-(Int.tmod x0_1 10)))] ?_; (with_reducible refine (spec_l01Figure.calls (wrap64 (-(Int.tmod x0_1 10))) t297 _ A7.out).mono ?_); rintro e w' ⟨rfl, ⟨nd, rfl⟩⟩; refine ⟨_, rfl, ?_⟩) | ((with_reducible refine gate_dst (N := 20) rfl ?_); refine Kd.R_lit (Kd.int .u8) _ 5 ?hg (N := 20) ?hd (xs := ([t297] : List Int)) (inner := [.int .u8 t297]) (ok := fun _ => True) (okp := fun _ => True) ?hr ?hp (fun _ hk => hk) trivial (Below.refl _ _) (Nat.le_refl _) (by simp) ?_; (case hd => rfl); (case hg => rfl); (case hr => first | (go_simp; done) | (go_simp; rfl)); (case hp => exact (Reps.one (show Kd.M (Kd.int .u8) _ _ _ t297 [.int .u8 t297] from rfl) (Reps.none _ _))); intro v299 w9 ho10 hb hg_ hnew_; clear hg_ hnew_; (first | rw [← Ny298.out] at ho10 | (simp only [Int.reduceToNat] at ho10; rw [← Ny298.out] at ho10)); have HO300 := As.mk (Kd.R_lower ho10 (below_size (be w))); replace HB := bs w hb; clear hb ho10; have hcv11 := own_string (P := Tryz.prog) Tryz.underlying90 Tryz.underlying5 Tryz.underlying9 (Kd.own_of_R HO300.out)))
   go_roundg k1
   case measure => have := HK1.out; omega
   case rel => exact ⟨(wrap64 (Int.tdiv x0_1 10)), ((strOfNums y298) ++ x4_1), (by first | rfl | (simp; done) | (simp [*]; done)), (by first | rfl | (simp; done) | (simp [*]; done)), H', ⟨by have := HK1.out; omega⟩, ⟨be w⟩⟩
/-! ### spec_l06Pair: function 106 -/
def spec_l06Pair.f (a0 : Int) : Option (Bool) := (spec_l01In.f a0 9 11).bind fun t305 => (some t305)
set_option maxHeartbeats 8000000 in
set_option maxRecDepth 100000 in
theorem spec_l06Pair.calls (a0 : Int) (r : Bool) (w : World) (h : spec_l06Pair.f a0 = some r) :
  Calls Tryz.prog 106 #[.int .i64 a0] w fun e w' => e = .returned (.bool r) ∧ Drawn0 w w' := by
 have H : ((spec_l01In.f a0 9 11).bind fun t305 => (some t305)) = some r := h; clear h; replace H := bo H; obtain ⟨t305, A2, H⟩ := H; obtain rfl := sj H; go_enter Tryz.func106, Tryz.ntmps106
 go_wp2_with (first | ((with_reducible refine gate_callee (f := 33) rfl ?_); refine goL (some 4) Tryz.func33 #[.int .i64 a0, .int .i64 9, .int .i64 11] ?_; (with_reducible refine (spec_l01In.calls a0 9 11 t305 _ A2.out).mono ?_); rintro e w' ⟨rfl, ⟨nd, rfl⟩⟩; refine ⟨_, rfl, ?_⟩))
 go_ret
 exact dw

/-! ### spec_l06Sign: function 80 -/
def spec_l06Sign.f (a0 : Int) : Option (ByteArray) := if a0 = 9 then (some (⟨#[32, 43, 32]⟩ : ByteArray)) else (if a0 = 10 then (some (⟨#[32, 60, 32]⟩ : ByteArray)) else (some (⟨#[32, 61, 61, 32]⟩ : ByteArray)))
set_option maxHeartbeats 8000000 in
set_option maxRecDepth 100000 in
theorem spec_l06Sign.calls (a0 : Int) (r : ByteArray) (w : World) (h : spec_l06Sign.f a0 = some r) :
  Calls Tryz.prog 80 #[.int .i64 a0] w fun e w' => e = .returned (.string r) ∧ Drawn0 w w' := by
 have H : (if a0 = 9 then (some (⟨#[32, 43, 32]⟩ : ByteArray)) else (if a0 = 10 then (some (⟨#[32, 60, 32]⟩ : ByteArray)) else (some (⟨#[32, 61, 61, 32]⟩ : ByteArray)))) = some r := h; clear h
 by_cases c2 : a0 = 9
 ·
  rw [if_pos c2] at H; have c2b0 : (a0 == 9) = true := beq_iff_eq.mpr c2; have c2b1 : (a0 != 9) = false := bne_eq_false_iff_eq.mpr c2; clear c2; obtain rfl := sj H; go_enter Tryz.func80, Tryz.ntmps80
  go_wp2
  go_ret
  exact dw
 rw [if_neg c2] at H; have c2b0 : (a0 == 9) = false := beq_eq_false_iff_ne.mpr c2; have c2b1 : (a0 != 9) = true := bne_iff_ne.mpr c2
 by_cases c3 : a0 = 10
 rotate_left
 ·
  rw [if_neg c3] at H; have c3b0 : (a0 == 10) = false := beq_eq_false_iff_ne.mpr c3; have c3b1 : (a0 != 10) = true := bne_iff_ne.mpr c3; obtain rfl := sj H; go_enter Tryz.func80, Tryz.ntmps80
  go_wp2
  go_ret
  exact dw

 rw [if_pos c3] at H; have c3b0 : (a0 == 10) = true := beq_iff_eq.mpr c3; have c3b1 : (a0 != 10) = false := bne_eq_false_iff_eq.mpr c3; clear c3; obtain rfl := sj H; go_enter Tryz.func80, Tryz.ntmps80
 go_wp2
 go_ret
 exact dw
end Go.Proofs.YtcoapbnbakmkoaaGreatDoor.PFnExactShowProgram
