/- Written by a program of this session (a turned copy of the kit's print): a contract for each Go function. No condition beside those in each statement. -/
import Derived.Test.YtcoapbnbakmkoaaGreatDoorPFnExactVarsOfx0
namespace Go.Proofs.YtcoapbnbakmkoaaGreatDoor.PFnExactVarsOf
open Go.RowKit Go.Proofs.YtcoapbnbakmkoaaGreatDoor.Given Go.Proofs.YtcoapbnbakmkoaaGreatDoorW.PrintWords Go.Proofs.YtcoapbnbakmkoaaGreatDoorW.PrintLast Go.Proofs.YtcoapbnbakmkoaaGreatDoorW.PrintMore
attribute [local go_sem] max2_int min2_int max_two min_two max_three min_three max_four min_four   -- for this text's walks alone
set_option linter.unusedVariables false
set_option linter.unusedSimpArgs false

/-! ### mkk_markText: function 42 -/
def mkk_markText.l0 : Nat → Int → ByteArray → Option (ByteArray)
 | 0, _, _ => none
 | k + 1, x0, x3 => if x0 > 0 then ((some (([(wrap64 (48 + (Int.tmod x0 10))) % 256] : List Int) : List Int)).bind fun y198 => (if (strOfNums y198).size + x3.size ≤ 9223372036854775807 then (mkk_markText.l0 k (wrap64 (Int.tdiv x0 10)) ((strOfNums y198) ++ x3)) else (none))) else (if 1 + x3.size ≤ 9223372036854775807 then (some ((⟨#[109]⟩ : ByteArray) ++ x3)) else (none))
def mkk_markText.f (k : Nat) (a0 : Int) : Option (ByteArray) := if a0 ≤ 0 then (some (⟨#[109, 48]⟩ : ByteArray)) else (mkk_markText.l0 k a0 (⟨#[]⟩ : ByteArray))
theorem mkk_markText.mono_l : ∀ k, (∀ y0 y1, LeO (mkk_markText.l0 k y0 y1) (mkk_markText.l0 (k + 1) y0 y1))
 | 0 => fun _ _ r h => by simp [mkk_markText.l0] at h
 | k + 1 => by
  have ih0 := mkk_markText.mono_l k
  ·
   intro y0 y1
   unfold mkk_markText.l0
   with_reducible repeat' first | exact ih0 _ _ | exact LeO.refl _ | exact LeO.none _ | refine LeO.ite ?_ ?_ | refine LeO.bind ?_ (fun _ => ?_)
theorem mkk_markText.mono : ∀ a0 k, LeO (mkk_markText.f k a0) (mkk_markText.f (k + 1) a0) := by
 intro a0 k
 have ih0 := mkk_markText.mono_l k
 unfold mkk_markText.f
 with_reducible repeat' first | exact ih0 _ _ | exact LeO.refl _ | exact LeO.none _ | refine LeO.ite ?_ ?_ | refine LeO.bind ?_ (fun _ => ?_)
set_option maxHeartbeats 8000000 in
set_option maxRecDepth 100000 in
theorem mkk_markText.calls (k : Nat) (a0 : Int) (r : ByteArray) (w : World) (h : mkk_markText.f k a0 = some r) :
  Calls Tryz.prog 42 #[.int .i64 a0] w fun e w' => e = .returned (.string r) ∧ Below w.heap.size w w' := by
 have HB := As.mk (Below.refl w.heap.size w)
 have H : (if a0 ≤ 0 then (some (⟨#[109, 48]⟩ : ByteArray)) else (mkk_markText.l0 k a0 (⟨#[]⟩ : ByteArray))) = some r := h
 clear h
 by_cases c2 : a0 ≤ 0
 ·
  rw [if_pos c2] at H
  have c2b0 : decide (a0 ≤ 0) = true := decide_eq_true c2
  clear c2
  obtain rfl := Option.some.inj H
  go_enter Tryz.func42, Tryz.ntmps42
  go_wp2
  go_ret
  exact ⟨ez, be w⟩
 rw [if_neg c2] at H
 have c2b0 : decide (a0 ≤ 0) = false := decide_eq_false c2
 clear c2
 have H' := As.mk H
 clear H
 go_enter Tryz.func42, Tryz.ntmps42
 go_wp2
 go_loopg [0, 3] k (fun kq v0 v3 w' => ∃ (x0_1 : Int) (x3_1 : ByteArray), v0 = .int .i64 x0_1 ∧ v3 = .string x3_1 ∧ As (mkk_markText.l0 kq x0_1 x3_1 = some r) ∧ As (kq ≤ k) ∧ As (Below w.heap.size w w'))
 case atStart => exact ⟨(a0), ((⟨#[]⟩ : ByteArray)), (by first | rfl | (simp; done) | (simp [*]; done)), (by first | rfl | (simp; done) | (simp [*]; done)), H', ⟨Nat.le_refl _⟩, ⟨be w⟩⟩
 case round =>
  clear H'
  (try clear c2); (try clear c2b0)
  obtain ⟨x0_1, x3_1, rfl, rfl, HA, HK1, HB⟩ := hrel
  cases gk with
  | zero => exact absurd HA.out (by simp [mkk_markText.l0])
  | succ k1 =>
   have H := HA.out
   clear HA
   simp only [mkk_markText.l0] at H
   by_cases c3 : x0_1 > 0
   rotate_left
   ·
    rw [if_neg c3] at H
    have c3b0 : decide (0 < x0_1) = false := decide_eq_false c3
    clear c3
    by_cases c8 : 1 + x3_1.size ≤ 9223372036854775807
    rotate_left; · rw [if_neg c8] at H; exact absurd H (by simp)

    rw [if_pos c8] at H
    have c8b0 := eq_true c8
    have c8b1 : decide (1 + x3_1.size ≤ 9223372036854775807) = true := decide_eq_true c8
    try have c8b2 : (9223372036854775807 < 1 + x3_1.size) = False := eq_false (Nat.not_lt.2 c8)
    obtain rfl := Option.some.inj H
    go_wp2
    go_ret
    exact ⟨ez, be w⟩
   rw [if_pos c3] at H
   have c3b0 : decide (0 < x0_1) = true := decide_eq_true c3
   clear c3
   obtain ⟨y198, hy198⟩ : ∃ y_ : List Int, y_ = (([(wrap64 (48 + (Int.tmod x0_1 10))) % 256] : List Int)) := ⟨_, rfl⟩
   replace H : (if (strOfNums y198).size + x3_1.size ≤ 9223372036854775807 then (mkk_markText.l0 k1 (wrap64 (Int.tdiv x0_1 10)) ((strOfNums y198) ++ x3_1)) else (none)) = some r := by first | (rw [hy198]; with_reducible exact H) | (have H2_ := (Option.bind_some _ _).symm.trans H; rw [hy198]; with_reducible exact H2_) | (have H2_ := (Option.bind_some _ _).symm.trans H; with_reducible exact H2_) | with_reducible exact H | (rw [hy198]; exact H) | exact H
   have Ny198 := As.mk hy198
   clear hy198
   by_cases c4 : (strOfNums y198).size + x3_1.size ≤ 9223372036854775807
   rotate_left; · rw [if_neg c4] at H; exact absurd H (by simp)
   rw [if_pos c4] at H
   have c4b0 := eq_true c4
   have c4b1 : decide ((strOfNums y198).size + x3_1.size ≤ 9223372036854775807) = true := decide_eq_true c4
   try have c4b2 : (9223372036854775807 < (strOfNums y198).size + x3_1.size) = False := eq_false (Nat.not_lt.2 c4)
   have H' := As.mk H
   clear H
   go_wp2_with (first | ((with_reducible refine gate_dst (N := 12) rfl ?_); refine Kd.R_lit (Kd.int .u8) _ 5 ?hg (N := 12) ?hd (xs := ([(wrap64 (48 + (Int.tmod x0_1 10))) % 256] : List Int)) (inner := [.int .u8 ((wrap64 (48 + (Int.tmod x0_1 10))) % 256)]) (ok := fun _ => True) (okp := fun _ => True) ?hr ?hp (fun _ hk => hk) trivial (Below.refl _ _) (Nat.le_refl _) (by simp) ?_; (case hd => rfl); (case hg => rfl); (case hr => first | (go_simp; done) | (go_simp; rfl)); (case hp => exact (Reps.one (show Kd.M (Kd.int .u8) _ _ _ ((wrap64 (48 + (Int.tmod x0_1 10))) % 256) [.int .u8 ((wrap64 (48 + (Int.tmod x0_1 10))) % 256)] from rfl) (Reps.none _ _))); intro v199 w5 ho6 hb hg_ hnew_; clear hg_ hnew_; (first | rw [← Ny198.out] at ho6 | (simp only [Int.reduceToNat] at ho6; rw [← Ny198.out] at ho6)); have HO200 := As.mk (Kd.R_lower ho6 (below_size (be w))); replace HB := As.mk (below_step (be w) hb); clear hb ho6; have hcv7 := own_string (P := Tryz.prog) Tryz.underlying90 Tryz.underlying5 Tryz.underlying9 (Kd.own_of_R HO200.out)))
   go_roundg k1
   case measure => have := HK1.out; omega
   case rel => exact ⟨(wrap64 (Int.tdiv x0_1 10)), ((strOfNums y198) ++ x3_1), (by first | rfl | (simp; done) | (simp [*]; done)), (by first | rfl | (simp; done) | (simp [*]; done)), H', ⟨by have := HK1.out; omega⟩, ⟨be w⟩⟩

/-! ### mkk_markIntS: function 27 -/
def mkk_markIntS.l0 : Nat → List Int → Int → Int → Option (Int × List Int)
 | 0, _, _, _ => none
 | k + 1, x0, x1, x5 => if x5 < (x0.length : Int) then (if 0 ≤ x5 then (mkk_markIntS.l0 k (x0.set (x5 : Int).toNat x1) (wrap64 (x1 + 1)) (wrap64 (x5 + 1))) else (none)) else (some (x1, x0))
def mkk_markIntS.f (k : Nat) (l0 : List Int) (a1 : Int) : Option (Int × List Int) := mkk_markIntS.l0 k l0 a1 0
theorem mkk_markIntS.mono_l : ∀ k, (∀ y0 y1 y2, LeO (mkk_markIntS.l0 k y0 y1 y2) (mkk_markIntS.l0 (k + 1) y0 y1 y2))
 | 0 => fun _ _ _ r h => by simp [mkk_markIntS.l0] at h
 | k + 1 => by
  have ih0 := mkk_markIntS.mono_l k
  ·
   intro y0 y1 y2
   unfold mkk_markIntS.l0
   with_reducible repeat' first | exact ih0 _ _ _ | exact LeO.refl _ | exact LeO.none _ | refine LeO.ite ?_ ?_ | refine LeO.bind ?_ (fun _ => ?_)
theorem mkk_markIntS.mono : ∀ a0 a1 k, LeO (mkk_markIntS.f k a0 a1) (mkk_markIntS.f (k + 1) a0 a1) := by
 intro a0 a1 k
 have ih0 := mkk_markIntS.mono_l k
 unfold mkk_markIntS.f
 with_reducible repeat' first | exact ih0 _ _ _ | exact LeO.refl _ | exact LeO.none _ | refine LeO.ite ?_ ?_ | refine LeO.bind ?_ (fun _ => ?_)
set_option maxHeartbeats 8000000 in
set_option maxRecDepth 100000 in
theorem mkk_markIntS.calls (k : Nat) (P0_ : Nat → Prop) (u9000_ : Value) (l0 : List Int) (a1 : Int) (r1 : Int) (r2 : List Int) (w0 w : World) (hB : Below w0.heap.size w0 w) (ho0 : Kd.R (Kd.int .i64) 3 w w0.heap.size P0_ u9000_ l0) (h : mkk_markIntS.f k l0 a1 = some (r1, r2)) :
  Calls Tryz.prog 27 #[u9000_, .int .i64 a1] w fun e w' => e = .returned (.int .i64 r1) ∧ Kd.R (Kd.int .i64) 3 w' w0.heap.size (fun k_ => (P0_ k_ ∨ w.heap.size ≤ k_)) u9000_ r2 ∧ Below w0.heap.size w0 w' ∧ Kept w w' (fun k_ => P0_ k_) := by
 have HO0 := As.mk (show Kd.R (Kd.int .i64) 3 w w0.heap.size (fun k_ => (P0_ k_ ∨ w.heap.size ≤ k_)) u9000_ l0 from Kd.R_mono ho0 (fun k_ hk => (.inl hk)))
 have HK := As.mk (Kept.refl w (fun k_ => P0_ k_))
 have HW0 := As.mk hB.size
 have HB := As.mk hB
 clear hB
 have H : (mkk_markIntS.l0 k l0 a1 0) = some (r1, r2) := h
 clear h
 have H' := As.mk H
 clear H
 go_enter Tryz.func27, Tryz.ntmps27
 go_wp2
 go_loopg [1, 5] k (fun kq v1 v5 w' => ∃ (x0_1 : List Int) (x1_1 : Int) (x5_1 : Int), v1 = .int .i64 x1_1 ∧ v5 = .int .i64 x5_1 ∧ As (mkk_markIntS.l0 kq x0_1 x1_1 x5_1 = some (r1, r2)) ∧ As (kq ≤ k) ∧ As (Kd.R (Kd.int .i64) 3 w' w0.heap.size (fun k_ => (P0_ k_ ∨ w.heap.size ≤ k_)) u9000_ x0_1) ∧ As (Kept w w' (fun k_ => P0_ k_)) ∧ As (Below w0.heap.size w0 w'))
 case atStart => exact ⟨(l0), (a1), (0), (by first | rfl | (simp; done) | (simp [*]; done)), (by first | rfl | (simp; done) | (simp [*]; done)), H', ⟨Nat.le_refl _⟩, ⟨by (with_reducible repeat (first | apply Kd.R_alloc | apply Kd.R_drewN | apply Kd.R_drew)); exact HO0.out⟩, ⟨by repeat (first | (with_reducible first | exact HK.out | apply Kept.alloc | apply Kept.drewN | apply Kept.drew) | exact HK.out)⟩, ⟨be w0⟩⟩
 case round =>
  clear H'
  obtain ⟨x0_1, x1_1, x5_1, rfl, rfl, HA, HK1, HO_0, HK, HB⟩ := hrel
  cases gk with
  | zero => exact absurd HA.out (by simp [mkk_markIntS.l0])
  | succ k1 =>
   have H := HA.out
   clear HA
   simp only [mkk_markIntS.l0] at H
   by_cases c3 : x5_1 < (x0_1.length : Int)
   rotate_left
   ·
    rw [if_neg c3] at H
    have c3b0 : decide (x5_1 < (x0_1.length : Int)) = false := decide_eq_false c3
    clear c3
    simp only [Option.some.injEq, Prod.mk.injEq] at H
    obtain ⟨rfl, rfl⟩ := H
    obtain ⟨Ao9, co9, eo9⟩ := Kd.R_slice HO_0.out
    subst eo9
    go_wp2
    go_ret
    exact ⟨ez, by (with_reducible repeat (first | apply Kd.R_alloc | apply Kd.R_drewN | apply Kd.R_drew)); exact HO_0.out, be w0, by repeat (first | (with_reducible first | exact HK.out | apply Kept.alloc | apply Kept.drewN | apply Kept.drew) | exact HK.out)⟩

   rw [if_pos c3] at H
   have c3b0 : decide (x5_1 < (x0_1.length : Int)) = true := decide_eq_true c3
   clear c3
   by_cases c4 : 0 ≤ x5_1
   rotate_left; · rw [if_neg c4] at H; exact absurd H (by simp)
   rw [if_pos c4] at H
   have c4b0 : decide (0 ≤ x5_1) = true := decide_eq_true c4
   clear c4
   obtain ⟨y197, hy197⟩ : ∃ y_ : List Int, y_ = (x0_1.set (x5_1 : Int).toNat x1_1) := ⟨_, rfl⟩
   replace H : (mkk_markIntS.l0 k1 y197 (wrap64 (x1_1 + 1)) (wrap64 (x5_1 + 1))) = some (r1, r2) := by first | (rw [hy197]; with_reducible exact H) | (have H2_ := (Option.bind_some _ _).symm.trans H; rw [hy197]; with_reducible exact H2_) | (have H2_ := (Option.bind_some _ _).symm.trans H; with_reducible exact H2_) | with_reducible exact H | (rw [hy197]; exact H) | exact H
   have Ny197 := As.mk hy197
   clear hy197
   have H' := As.mk H
   clear H
   obtain ⟨Ao6, co6, eo6⟩ := Kd.R_slice HO_0.out
   subst eo6
   have p5 : 0 ≤ (x5_1 : Int) := od
   have q5 : (x5_1 : Int) < ((x0_1.length : Int) : Int) := od
   obtain ⟨go5, co5, eo5, gb5, gl5, cl5, HG5⟩ := Kd.R_form HO_0.out (by omega)
   (first | cases eo5 | (injection eo5 with ea_ en_ ec_; (first | subst ea_ | (injection ea_ with ea_; subst ea_)); subst ec_; clear en_))
   have GB5 := As.mk gb5
   have GG5 := As.mk HG5
   clear gb5 gl5 HG5
   have HMgo5 := As.mk (show (P0_ go5 ∨ w.heap.size ≤ go5) from (HO_0.out.1 _ rfl))
   obtain ⟨hx5_0, hf5_0⟩ := Kd.R_celln 0 HO_0.out (x5_1 : Int) p5 q5
   replace p5 := eq_true p5
   replace q5 := eq_true q5
   have HP7 := Kd.R_putg HO_0.out (x5_1 : Int) x1_1
   go_wp2_with (first | ((with_reducible refine gate_store (t := 3) (p := 15) rfl ?_); refine store_event (t := 3) (p := 15) (v := ?vo_w8) (w1 := (wr.setCell ⟨go5, (x5_1 : Int).toNat, none⟩ (.int .i64 x1_1))) ?hg ?ho ?hn ?hr ?_; (case ho => rfl); (case hg => rfl); (case hn => rfl); (case hr => first | (go_simp; done) | (go_simp; rfl)); intro w8 hw; have hg : wr.grownBy w8 (some go5) := (by rw [hw]; exact HP7.2); have hp_ : Kd.R (Kd.int .i64) 3 w8 w0.heap.size (fun k_ => (P0_ k_ ∨ w.heap.size ≤ k_)) (.slice (some ⟨go5, 0, none⟩) x0_1.length co6) y197 := (by rw [hw, Ny197.out]; exact HP7.1); clear HP7; replace HB := As.mk ((by rw [hw]; exact below_set (HB.out) GB5.out : Below w0.heap.size w0 w8)); replace HK := As.mk (Kept.of_grown (S := (fun k_ => P0_ k_)) hg (by repeat (first | (with_reducible first | exact HK.out | apply Kept.alloc | apply Kept.drewN | apply Kept.drew) | exact HK.out)) (fun k_ e_ => (HO_0.out.1 k_ e_))); replace HO_0 := As.mk (hp_); clear hg hw hp_))
   go_roundg k1
   case measure => have := HK1.out; omega
   case rel => exact ⟨(y197), (wrap64 (x1_1 + 1)), (wrap64 (x5_1 + 1)), (by first | rfl | (simp; done) | (simp [*]; done)), (by first | rfl | (simp; done) | (simp [*]; done)), H', ⟨by have := HK1.out; omega⟩, ⟨by (with_reducible repeat (first | apply Kd.R_alloc | apply Kd.R_drewN | apply Kd.R_drew)); exact HO_0.out⟩, ⟨by repeat (first | (with_reducible first | exact HK.out | apply Kept.alloc | apply Kept.drewN | apply Kept.drew) | exact HK.out)⟩, ⟨be w0⟩⟩

/-! ### mkk_markParamS: function 70 -/
def mkk_markParamS.l0 : Nat → List (S58) → Int → Int → Option (Int × (List (S58)))
 | 0, _, _, _ => none
 | k + 1, x0, x1, x5 => if x5 < (x0.length : Int) then ((mkk_markText.f k x1).bind fun t201 => (if 0 ≤ x5 then ((some (x0.set (x5 : Int).toNat (⟨t201, (rd_T58 x0 x5).f1⟩ : S58) : List (S58))).bind fun y202 => (mkk_markParamS.l0 k (y202.set (x5 : Int).toNat (⟨(rd_T58 y202 x5).f0, wrap64 (x1 + 1)⟩ : S58)) (wrap64 ((wrap64 (x1 + 1)) + 1)) (wrap64 (x5 + 1)))) else (none))) else (some (x1, x0))
def mkk_markParamS.f (k : Nat) (l0 : List (S58)) (a1 : Int) : Option (Int × (List (S58))) := mkk_markParamS.l0 k l0 a1 0
theorem mkk_markParamS.mono_l : ∀ k, (∀ y0 y1 y2, LeO (mkk_markParamS.l0 k y0 y1 y2) (mkk_markParamS.l0 (k + 1) y0 y1 y2))
 | 0 => fun _ _ _ r h => by simp [mkk_markParamS.l0] at h
 | k + 1 => by
  have ih0 := mkk_markParamS.mono_l k
  ·
   intro y0 y1 y2
   unfold mkk_markParamS.l0
   with_reducible repeat' first | exact ih0 _ _ _ | exact mkk_markText.mono _ _ | exact LeO.refl _ | exact LeO.none _ | refine LeO.ite ?_ ?_ | refine LeO.bind ?_ (fun _ => ?_)
theorem mkk_markParamS.mono : ∀ a0 a1 k, LeO (mkk_markParamS.f k a0 a1) (mkk_markParamS.f (k + 1) a0 a1) := by
 intro a0 a1 k
 have ih0 := mkk_markParamS.mono_l k
 unfold mkk_markParamS.f
 with_reducible repeat' first | exact ih0 _ _ _ | exact mkk_markText.mono _ _ | exact LeO.refl _ | exact LeO.none _ | refine LeO.ite ?_ ?_ | refine LeO.bind ?_ (fun _ => ?_)
set_option maxHeartbeats 8000000 in
set_option maxRecDepth 100000 in
theorem mkk_markParamS.calls (k : Nat) (P0_ : Nat → Prop) (u9000_ : Value) (l0 : List (S58)) (a1 : Int) (r1 : Int) (r2 : List (S58)) (w0 w : World) (hB : Below w0.heap.size w0 w) (ho0 : Kd.R k58 58 w w0.heap.size P0_ u9000_ l0) (h : mkk_markParamS.f k l0 a1 = some (r1, r2)) :
  Calls Tryz.prog 70 #[u9000_, .int .i64 a1] w fun e w' => e = .returned (.int .i64 r1) ∧ Kd.R k58 58 w' w0.heap.size (fun k_ => (P0_ k_ ∨ w.heap.size ≤ k_)) u9000_ r2 ∧ Below w0.heap.size w0 w' ∧ Kept w w' (fun k_ => P0_ k_) := by
 have HO0 := As.mk (show Kd.R k58 58 w w0.heap.size (fun k_ => (P0_ k_ ∨ w.heap.size ≤ k_)) u9000_ l0 from Kd.R_mono ho0 (fun k_ hk => (.inl hk)))
 have HK := As.mk (Kept.refl w (fun k_ => P0_ k_))
 have HW0 := As.mk hB.size
 have HB := As.mk hB
 clear hB
 have H : (mkk_markParamS.l0 k l0 a1 0) = some (r1, r2) := h
 clear h
 have H' := As.mk H
 clear H
 go_enter Tryz.func70, Tryz.ntmps70
 go_wp2
 go_loopg [1, 5] k (fun kq v1 v5 w' => ∃ (x0_1 : List (S58)) (x1_1 : Int) (x5_1 : Int), v1 = .int .i64 x1_1 ∧ v5 = .int .i64 x5_1 ∧ As (mkk_markParamS.l0 kq x0_1 x1_1 x5_1 = some (r1, r2)) ∧ As (kq ≤ k) ∧ As (Kd.R k58 58 w' w0.heap.size (fun k_ => (P0_ k_ ∨ w.heap.size ≤ k_)) u9000_ x0_1) ∧ As (Kept w w' (fun k_ => P0_ k_)) ∧ As (Below w0.heap.size w0 w'))
 case atStart => exact ⟨(l0), (a1), (0), (by first | rfl | (simp; done) | (simp [*]; done)), (by first | rfl | (simp; done) | (simp [*]; done)), H', ⟨Nat.le_refl _⟩, ⟨by (with_reducible repeat (first | apply Kd.R_alloc | apply Kd.R_drewN | apply Kd.R_drew)); exact HO0.out⟩, ⟨by repeat (first | (with_reducible first | exact HK.out | apply Kept.alloc | apply Kept.drewN | apply Kept.drew) | exact HK.out)⟩, ⟨be w0⟩⟩
 case round =>
  clear H'
  obtain ⟨x0_1, x1_1, x5_1, rfl, rfl, HA, HK1, HO_0, HK, HB⟩ := hrel
  cases gk with
  | zero => exact absurd HA.out (by simp [mkk_markParamS.l0])
  | succ k1 =>
   have H := HA.out
   clear HA
   simp only [mkk_markParamS.l0] at H
   by_cases c3 : x5_1 < (x0_1.length : Int)
   rotate_left
   ·
    rw [if_neg c3] at H
    have c3b0 : decide (x5_1 < (x0_1.length : Int)) = false := decide_eq_false c3
    clear c3
    simp only [Option.some.injEq, Prod.mk.injEq] at H
    obtain ⟨rfl, rfl⟩ := H
    obtain ⟨Ao14, co14, eo14⟩ := Kd.R_slice HO_0.out
    subst eo14
    go_wp2
    go_ret
    exact ⟨ez, by (with_reducible repeat (first | apply Kd.R_alloc | apply Kd.R_drewN | apply Kd.R_drew)); exact HO_0.out, be w0, by repeat (first | (with_reducible first | exact HK.out | apply Kept.alloc | apply Kept.drewN | apply Kept.drew) | exact HK.out)⟩

   rw [if_pos c3] at H
   have c3b0 : decide (x5_1 < (x0_1.length : Int)) = true := decide_eq_true c3
   clear c3
   obtain ⟨t201, A40, H⟩ := Option.bind_eq_some_iff.mp H
   try dsimp only at H
   have A4 := As.mk A40
   clear A40
   by_cases c5 : 0 ≤ x5_1
   rotate_left; · rw [if_neg c5] at H; exact absurd H (by simp)
   rw [if_pos c5] at H
   have c5b0 : decide (0 ≤ x5_1) = true := decide_eq_true c5
   clear c5
   obtain ⟨y202, hy202⟩ : ∃ y_ : List (S58), y_ = (x0_1.set (x5_1 : Int).toNat (⟨t201, (rd_T58 x0_1 x5_1).f1⟩ : S58)) := ⟨_, rfl⟩
   replace H : (mkk_markParamS.l0 k1 (y202.set (x5_1 : Int).toNat (⟨(rd_T58 y202 x5_1).f0, wrap64 (x1_1 + 1)⟩ : S58)) (wrap64 ((wrap64 (x1_1 + 1)) + 1)) (wrap64 (x5_1 + 1))) = some (r1, r2) := by first | (rw [hy202]; with_reducible exact H) | (have H2_ := (Option.bind_some _ _).symm.trans H; rw [hy202]; with_reducible exact H2_) | (have H2_ := (Option.bind_some _ _).symm.trans H; with_reducible exact H2_) | with_reducible exact H | (rw [hy202]; exact H) | exact H
   have Ny202 := As.mk hy202
   clear hy202
   obtain ⟨y203, hy203⟩ : ∃ y_ : List (S58), y_ = (y202.set (x5_1 : Int).toNat (⟨(rd_T58 y202 x5_1).f0, wrap64 (x1_1 + 1)⟩ : S58)) := ⟨_, rfl⟩
   replace H : (mkk_markParamS.l0 k1 y203 (wrap64 ((wrap64 (x1_1 + 1)) + 1)) (wrap64 (x5_1 + 1))) = some (r1, r2) := by first | (rw [hy203]; with_reducible exact H) | (have H2_ := (Option.bind_some _ _).symm.trans H; rw [hy203]; with_reducible exact H2_) | (have H2_ := (Option.bind_some _ _).symm.trans H; with_reducible exact H2_) | with_reducible exact H | (rw [hy203]; exact H) | exact H
   have Ny203 := As.mk hy203
   clear hy203
   have H' := As.mk H
   clear H
   obtain ⟨Ao8, co8, eo8⟩ := Kd.R_slice HO_0.out
   subst eo8
   go_wp2_with (first | ((with_reducible refine gate_callee (f := 42) rfl ?_); refine goesL_ (some 15) rfl rfl Tryz.func42 (by kernel_rfl) rfl #[.int .i64 x1_1] rfl (by (try simp only [lm]); first | done | rfl | (simp only [List.length_drop, List.length_take]; rfl)) ?_; (with_reducible refine (mkk_markText.calls k1 x1_1 t201 _ A4.out).mono ?_); rintro e w9 ⟨rfl, hb⟩; refine ⟨_, rfl, ?_⟩; replace HO_0 := As.mk (Kd.R_below (by (with_reducible repeat (first | apply Kd.R_alloc | apply Kd.R_drewN | apply Kd.R_drew)); exact HO_0.out) hb); replace HK := As.mk (Kept.below (S := (fun k_ => P0_ k_)) (by repeat (first | (with_reducible first | exact HK.out | apply Kept.alloc | apply Kept.drewN | apply Kept.drew) | exact HK.out)) hb); replace HB := As.mk (below_step (be w0) hb); (try clear hb); (try clear hb2); (try clear hk); (try clear hi); have p6 : 0 ≤ (x5_1 : Int) := od; have q6 : (x5_1 : Int) < ((x0_1.length : Int) : Int) := od; obtain ⟨go6, co6, eo6, gb6, gl6, cl6, HG6⟩ := Kd.R_form HO_0.out (by omega); (first | cases eo6 | (injection eo6 with ea_ en_ ec_; (first | subst ea_ | (injection ea_ with ea_; subst ea_)); subst ec_; clear en_)); have GB6 := As.mk gb6; have GG6 := As.mk HG6; clear gb6 gl6 HG6; have HMgo6 := As.mk (show (P0_ go6 ∨ w.heap.size ≤ go6) from (HO_0.out.1 _ rfl)); obtain ⟨ce6, hcl6, hM6, hcc6, hfr6⟩ := Kd.R_elem HO_0.out z58 (x5_1 : Int) p6 q6; obtain rfl := k58_openM hM6; have hx6_0 : w9.cell? ⟨go6, (x5_1 : Int).toNat * 2, none⟩ = some (.string ((rd_T58 x0_1 x5_1).f0)) := hcc6 0 _ rfl; have hx6_1 : w9.cell? ⟨go6, (x5_1 : Int).toNat * 2 + 1, none⟩ = some (.int .i64 ((rd_T58 x0_1 x5_1).f1)) := hcc6 1 _ rfl; have hf6_0 : w9.frozen? ⟨go6, (x5_1 : Int).toNat * 2, none⟩ = false := hfr6 0; have hf6_1 : w9.frozen? ⟨go6, (x5_1 : Int).toNat * 2 + 1, none⟩ = false := hfr6 1; clear hcl6 hcc6 hfr6 hM6; replace p6 := eq_true p6; replace q6 := eq_true q6; have HX10 := As.mk (show Kd.R k58 58 w9 w0.heap.size (fun k_ => (P0_ k_ ∨ w.heap.size ≤ k_)) (.slice (some ⟨go6, 0, none⟩) x0_1.length co8) x0_1 from (by (with_reducible repeat (first | apply Kd.R_alloc | apply Kd.R_drewN | apply Kd.R_drew)); exact HO_0.out)); obtain ⟨ce10, hcl10, hM10, hcc10, hfr10⟩ := Kd.R_elem HX10.out z58 (x5_1 : Int) (of_decide_eq_true (by first | (with_reducible assumption) | assumption)) (by have h_ : (x5_1 : Int) < ((x0_1.length : Int) : Int) := od; first | exact h_ | (have e_ := (Kd.R_reads' HO_0.out).1; omega) | simpa using h_); obtain rfl := k58_openM hM10; have HP10 := Kd.R_seg HX10.out (x5_1 : Int) (of_decide_eq_true (by first | (with_reducible assumption) | assumption)) (by have h_ : (x5_1 : Int) < ((x0_1.length : Int) : Int) := od; first | exact h_ | (have e_ := (Kd.R_reads' HO_0.out).1; omega) | simpa using h_) (seg := [.string t201]) (j := 0) hcl10 hcc10 (show 1 ≤ 2 from by decide) (x' := (⟨t201, (rd_T58 x0_1 x5_1).f1⟩ : S58)) (k58_mkM _ _ _ (⟨t201, (rd_T58 x0_1 x5_1).f1⟩ : S58) ) (fun _ hk => hk); have hx10_0 := hcc10 0 _ rfl; (try simp only [show (k58).sz = 2 from rfl, Nat.mul_one, Nat.add_zero] at hx10_0); have hf10_0 := hfr10 0; (try simp only [show (k58).sz = 2 from rfl, Nat.mul_one, Nat.add_zero] at hf10_0); clear hcl10 hcc10 hfr10 hM10) | ((with_reducible refine gate_store (t := 9) (p := 17) rfl ?_); refine store_event (t := 9) (p := 17) (v := ?vo_w11) (w1 := (w9.setCell ⟨go6, (x5_1 : Int).toNat * 2, none⟩ (.string t201))) ?hg ?ho ?hn ?hr ?_; (case ho => rfl); (case hg => rfl); (case hn => rfl); (case hr => first | (go_simp; done) | (go_simp; rfl)); intro w11 hw; have hg : w9.grownBy w11 (some go6) := (by rw [hw]; exact HP10.2); have hp_ : Kd.R k58 58 w11 w0.heap.size (fun k_ => (P0_ k_ ∨ w.heap.size ≤ k_)) (.slice (some ⟨go6, 0, none⟩) x0_1.length co8) y202 := (by rw [hw, Ny202.out]; exact HP10.1); clear HP10; replace HB := As.mk ((by rw [hw]; exact below_set (HB.out) GB6.out : Below w0.heap.size w0 w11)); replace HK := As.mk (Kept.of_grown (S := (fun k_ => P0_ k_)) hg (by repeat (first | (with_reducible first | exact HK.out | apply Kept.alloc | apply Kept.drewN | apply Kept.drew) | exact HK.out)) (fun k_ e_ => (HO_0.out.1 k_ e_))); replace HO_0 := As.mk (hp_); clear hg hw hp_; have p7 : 0 ≤ (x5_1 : Int) := od; have q7 : (x5_1 : Int) < ((x0_1.length : Int) : Int) := od; obtain ⟨ce7, hcl7, hM7, hcc7, hfr7⟩ := Kd.R_elem HO_0.out z58 (x5_1 : Int) p7 q7; obtain rfl := k58_openM hM7; have hx7_0 : w11.cell? ⟨go6, (x5_1 : Int).toNat * 2, none⟩ = some (.string ((rd_T58 y202 x5_1).f0)) := hcc7 0 _ rfl; have hx7_1 : w11.cell? ⟨go6, (x5_1 : Int).toNat * 2 + 1, none⟩ = some (.int .i64 ((rd_T58 y202 x5_1).f1)) := hcc7 1 _ rfl; have hf7_0 : w11.frozen? ⟨go6, (x5_1 : Int).toNat * 2, none⟩ = false := hfr7 0; have hf7_1 : w11.frozen? ⟨go6, (x5_1 : Int).toNat * 2 + 1, none⟩ = false := hfr7 1; clear hcl7 hcc7 hfr7 hM7; replace p7 := eq_true p7; replace q7 := eq_true q7; have HX12 := As.mk (show Kd.R k58 58 w11 w0.heap.size (fun k_ => (P0_ k_ ∨ w.heap.size ≤ k_)) (.slice (some ⟨go6, 0, none⟩) x0_1.length co8) y202 from (by (with_reducible repeat (first | apply Kd.R_alloc | apply Kd.R_drewN | apply Kd.R_drew)); exact HO_0.out)); obtain ⟨ce12, hcl12, hM12, hcc12, hfr12⟩ := Kd.R_elem HX12.out z58 (x5_1 : Int) (of_decide_eq_true (by first | (with_reducible assumption) | assumption)) (by have h_ : (x5_1 : Int) < ((x0_1.length : Int) : Int) := od; first | exact h_ | (have e_ := (Kd.R_reads' HO_0.out).1; omega) | simpa using h_); obtain rfl := k58_openM hM12; have HP12 := Kd.R_seg HX12.out (x5_1 : Int) (of_decide_eq_true (by first | (with_reducible assumption) | assumption)) (by have h_ : (x5_1 : Int) < ((x0_1.length : Int) : Int) := od; first | exact h_ | (have e_ := (Kd.R_reads' HO_0.out).1; omega) | simpa using h_) (seg := [.int .i64 (wrap64 (x1_1 + 1))]) (j := 1) hcl12 hcc12 (show 2 ≤ 2 from by decide) (x' := (⟨(rd_T58 y202 x5_1).f0, wrap64 (x1_1 + 1)⟩ : S58)) (k58_mkM _ _ _ (⟨(rd_T58 y202 x5_1).f0, wrap64 (x1_1 + 1)⟩ : S58) ) (fun _ hk => hk); have hx12_1 := hcc12 1 _ rfl; (try simp only [show (k58).sz = 2 from rfl, Nat.mul_one, Nat.add_zero] at hx12_1); have hf12_1 := hfr12 1; (try simp only [show (k58).sz = 2 from rfl, Nat.mul_one, Nat.add_zero] at hf12_1); clear hcl12 hcc12 hfr12 hM12) | ((with_reducible refine gate_store (t := 3) (p := 24) rfl ?_); refine store_event (t := 3) (p := 24) (v := ?vo_w13) (w1 := (w11.setCell ⟨go6, (x5_1 : Int).toNat * 2 + 1, none⟩ (.int .i64 (wrap64 (x1_1 + 1))))) ?hg ?ho ?hn ?hr ?_; (case ho => rfl); (case hg => rfl); (case hn => rfl); (case hr => first | (go_simp; done) | (go_simp; rfl)); intro w13 hw; have hg : w11.grownBy w13 (some go6) := (by rw [hw]; exact HP12.2); have hp_ : Kd.R k58 58 w13 w0.heap.size (fun k_ => (P0_ k_ ∨ w.heap.size ≤ k_)) (.slice (some ⟨go6, 0, none⟩) x0_1.length co8) y203 := (by rw [hw, Ny203.out]; exact HP12.1); clear HP12; replace HB := As.mk ((by rw [hw]; exact below_set (HB.out) GB6.out : Below w0.heap.size w0 w13)); replace HK := As.mk (Kept.of_grown (S := (fun k_ => P0_ k_)) hg (by repeat (first | (with_reducible first | exact HK.out | apply Kept.alloc | apply Kept.drewN | apply Kept.drew) | exact HK.out)) (fun k_ e_ => (HO_0.out.1 k_ e_))); replace HO_0 := As.mk (hp_); clear hg hw hp_))
   go_roundg k1
   case measure => have := HK1.out; omega
   case rel => exact ⟨(y203), (wrap64 ((wrap64 (x1_1 + 1)) + 1)), (wrap64 (x5_1 + 1)), (by first | rfl | (simp; done) | (simp [*]; done)), (by first | rfl | (simp; done) | (simp [*]; done)), H', ⟨by have := HK1.out; omega⟩, ⟨by (with_reducible repeat (first | apply Kd.R_alloc | apply Kd.R_drewN | apply Kd.R_drew)); exact HO_0.out⟩, ⟨by repeat (first | (with_reducible first | exact HK.out | apply Kept.alloc | apply Kept.drewN | apply Kept.drew) | exact HK.out)⟩, ⟨be w0⟩⟩

/-! ### by hand: mkk_markNodeS, mkk_markFnS, markProgram -/
theorem mkk_wS {m : Int} (h0 : 0 ≤ m) (h1 : m < 4611686018427387904) : wrap64 (m + 1) = m + 1 := by unfold wrap64; omega
theorem mkk_markInts_l0 : ∀ (d i : Nat) (xs : List Int) (a : Int), i + d = xs.length → xs.length < 4611686018427387904 → 0 ≤ a → a + d < 4611686018427387904 → ∃ k r, mkk_markIntS.l0 k xs a (i : Int) = some (a + d, r)
  | 0, i, xs, a, h, hl, h0, h1 => ⟨1, xs, by rw [mkk_markIntS.l0, if_neg (by omega)]; simp⟩
  | d + 1, i, xs, a, h, hl, h0, h1 => by
    obtain ⟨k, r, e⟩ := mkk_markInts_l0 d (i + 1) (xs.set i a) (a + 1) (by rw [List.length_set]; omega) (by rw [List.length_set]; exact hl) (by omega) (by omega)
    refine ⟨k + 1, r, ?_⟩
    rw [mkk_markIntS.l0, if_pos (by omega), if_pos (by omega), mkk_wS h0 (by omega), mkk_wS (by omega) (by omega), Int.toNat_natCast]
    rw [show ((i : Int) + 1) = ((i + 1 : Nat) : Int) by omega, e]
    congr 2
    omega
theorem mkk_markInts_some (xs : List Int) (a : Int) (hl : xs.length < 4611686018427387904) (h0 : 0 ≤ a) (h1 : a + xs.length < 4611686018427387904) : ∃ k r, mkk_markIntS.f k xs a = some (a + xs.length, r) :=
  mkk_markInts_l0 xs.length 0 xs a (by omega) hl h0 h1
theorem mkk_markText_l0 : ∀ (n : Nat) (a : Int) (s : ByteArray), a < 10 ^ n → s.size + n < 1000 → ∃ k t, mkk_markText.l0 k a s = some t
  | 0, a, s, h, hs => ⟨1, _, by rw [mkk_markText.l0, if_neg (by omega), if_pos (by omega)]⟩
  | n + 1, a, s, h, hs => by
    by_cases c : a > 0
    · have hz : (strOfNums [(wrap64 (48 + (Int.tmod a 10))) % 256]).size = 1 := rfl
      have e1 : Int.tdiv a 10 = a / 10 := Int.tdiv_eq_ediv_of_nonneg (by omega)
      by_cases c2 : a / 10 ≤ 9223372036854775807
      · have e2 : wrap64 (a / 10) = a / 10 := by unfold wrap64; omega
        have hp : a / 10 < 10 ^ n := by
          have : (10 : Int) ^ (n + 1) = 10 ^ n * 10 := by rw [Int.pow_succ]
          omega
        obtain ⟨k, t, e⟩ := mkk_markText_l0 n (a / 10) (strOfNums [(wrap64 (48 + (Int.tmod a 10))) % 256] ++ s) hp (by rw [ByteArray.size_append, hz]; omega)
        exact ⟨k + 1, t, by rw [mkk_markText.l0, if_pos c, Option.bind_some, if_pos (by rw [hz]; omega), e1, e2]; exact e⟩
      · obtain ⟨k, t, e⟩ := mkk_markText_l0 n (wrap64 (a / 10)) (strOfNums [(wrap64 (48 + (Int.tmod a 10))) % 256] ++ s) (by
          have h9 : wrap64 (a / 10) ≤ a / 10 := by unfold wrap64; omega
          have : (10 : Int) ^ (n + 1) = 10 ^ n * 10 := by rw [Int.pow_succ]
          omega) (by rw [ByteArray.size_append, hz]; omega)
        exact ⟨k + 1, t, by rw [mkk_markText.l0, if_pos c, Option.bind_some, if_pos (by rw [hz]; omega), e1]; exact e⟩
    · exact ⟨1, _, by rw [mkk_markText.l0, if_neg c, if_pos (by omega)]⟩
theorem mkk_markText_some (a : Int) (h : a < 4611686018427387904) : ∃ k t, mkk_markText.f k a = some t := by
  by_cases c : a ≤ 0
  · exact ⟨0, _, by rw [mkk_markText.f, if_pos c]⟩
  · have h2 : a < 10 ^ 20 := by
      have : (10 : Int) ^ 20 = 100000000000000000000 := by decide
      omega
    obtain ⟨k, t, e⟩ := mkk_markText_l0 20 a ⟨#[]⟩ h2 (by decide)
    exact ⟨k, t, by rw [mkk_markText.f, if_neg c]; exact e⟩
def mkk_nodesSum : List S62 → Nat
  | [] => 0
  | x :: r => 3 + x.f3.length + mkk_nodesSum r
theorem mkk_rd62 (xs : List S62) (i : Nat) (h : i < xs.length) : rd_T62 xs (i : Int) = xs[i] := by
  unfold rd_T62
  rw [Int.toNat_natCast, List.getD_eq_getElem?_getD, List.getElem?_eq_getElem h]
  rfl
theorem mkk_nodesSum_drop (xs : List S62) (i : Nat) (h : i < xs.length) : mkk_nodesSum (xs.drop i) = 3 + (rd_T62 xs (i : Int)).f3.length + mkk_nodesSum (xs.drop (i + 1)) := by
  rw [List.drop_eq_getElem_cons h, mkk_nodesSum, mkk_rd62 xs i h]
theorem mkk_rd62_set (xs : List S62) (i j : Nat) (x : S62) (h : i ≠ j) : rd_T62 (xs.set i x) (j : Int) = rd_T62 xs (j : Int) := by
  unfold rd_T62
  rw [Int.toNat_natCast, List.getD_eq_getElem?_getD, List.getD_eq_getElem?_getD, List.getElem?_set_ne h]
theorem mkk_rd62_at (xs : List S62) (i : Nat) (x : S62) (h : i < xs.length) : rd_T62 (xs.set i x) (i : Int) = x := by
  unfold rd_T62
  rw [Int.toNat_natCast, List.getD_eq_getElem?_getD, List.getElem?_set_self h]
  rfl
/-- The hole of a row's element i, for a store into its cells: nothing else is lent. -/
theorem mkk_S_elemF {α : Type} {d : Kd α} {e base g n cap : Nat} {ok : Nat → Prop} {W : World} {xs : List α} (h : Kd.S d e W base ok (.slice (some ⟨g, 0, none⟩) n cap) xs) (z : α) (i : Int) (h0 : 0 ≤ i) (h1 : i < n) :
    ∃ (oki : Nat → Prop) (c : List Value), c.length = d.sz ∧ d.M W base oki (xs.getD i.toNat z) c ∧ (∀ j u, c[j]? = some u → W.cell? ⟨g, i.toNat * d.sz + j, none⟩ = some u) ∧ (∀ j, W.frozen? ⟨g, i.toNat * d.sz + j, none⟩ = false) ∧
      ∀ {seg : List Value} {j : Nat} {x' : α}, j + seg.length ≤ d.sz → d.M W base oki x' (c.take j ++ seg ++ c.drop (j + seg.length)) → Kd.S d e (W.setCells g (i.toNat * d.sz + j) seg) base ok (.slice (some ⟨g, 0, none⟩) n cap) (xs.set i.toNat x') ∧ W.grownBy (W.setCells g (i.toNat * d.sz + j) seg) (some g) := by
  obtain ⟨oki, c, hcl, hM, hcc, hfr, _, hH⟩ := Kd.S_elem (Kd.S_mono (ok' := fun k => ok k ∧ ¬ (fun _ => False) k) h (fun k hk => ⟨hk, fun h => h⟩)) z i h0 h1
  exact ⟨oki, c, hcl, hM, hcc, hfr, fun hj hM' => Kd.S_seg hH h0 h1 hj hM' (fun _ hk => .inl hk) (fun _ hk => hk.elim)⟩
set_option maxHeartbeats 8000000 in
set_option maxRecDepth 100000 in
theorem mkk_markNodeS.calls (P : Nat → Prop) (u : Value) (l : List S62) (a : Int) (w0 w : World) (hB : Below w0.heap.size w0 w) (ho : Kd.S k62 62 w w0.heap.size P u l) (ha : 0 ≤ a) (hs : a + (mkk_nodesSum l : Nat) < 4611686018427387904) :
    Calls Tryz.prog 40 #[u, .int .i64 a] w fun e w' => e = .returned (.int .i64 (a + (mkk_nodesSum l : Nat))) ∧ Below w0.heap.size w0 w' ∧ Kept w w' P := by
 have HO0 := As.mk ho
 have HK := As.mk (Kept.refl w P)
 have HB := As.mk hB
 clear hB ho
 obtain ⟨b, hb⟩ : ∃ b : Int, b = a + (mkk_nodesSum l : Nat) := ⟨_, rfl⟩
 rw [← hb] at hs ⊢
 have H0 := As.mk (show ((0 : Nat) ≤ l.length ∧ a + (mkk_nodesSum (l.drop 0) : Nat) = b ∧ 0 ≤ a ∧ b < 4611686018427387904) from ⟨Nat.zero_le _, by rw [List.drop_zero]; exact hb.symm, ha, hs⟩)
 clear hb hs ha
 go_enter Tryz.func40, Tryz.ntmps40
 go_wp2
 go_loopg [1, 5] (l.length + 1) (fun kq v1 v5 w' => ∃ (m x : Int) (xs : List S62), v1 = .int .i64 m ∧ v5 = .int .i64 x ∧ As (∃ i : Nat, x = (i : Int) ∧ i + kq = l.length + 1 ∧ i ≤ l.length ∧ m + (mkk_nodesSum (l.drop i) : Nat) = b ∧ 0 ≤ m ∧ b < 4611686018427387904 ∧ xs.length = l.length ∧ ∀ j : Nat, i ≤ j → (rd_T62 xs (j : Int)).f3.length = (rd_T62 l (j : Int)).f3.length) ∧ As (Kd.S k62 62 w' w0.heap.size P u xs) ∧ As (Kept w w' P) ∧ As (Below w0.heap.size w0 w'))
 case atStart => exact ⟨a, 0, l, rfl, rfl, ⟨0, rfl, by omega, H0.out.1, H0.out.2.1, H0.out.2.2.1, H0.out.2.2.2, rfl, fun _ _ => rfl⟩, ⟨by (with_reducible repeat (first | apply Kd.S_alloc | apply Kd.S_drewN | apply Kd.S_drew)); exact HO0.out⟩, ⟨by repeat (first | (with_reducible first | exact HK.out | apply Kept.alloc | apply Kept.drewN | apply Kept.drew) | exact HK.out)⟩, ⟨be w0⟩⟩
 case round =>
  clear H0 HO0
  obtain ⟨m, x, xs, rfl, rfl, HI, HO, HK, HB⟩ := hrel
  by_cases c3 : x < (xs.length : Int)
  rotate_left
  ·
   have c3b0 : decide (x < (xs.length : Int)) = false := decide_eq_false c3
   obtain ⟨Ao, co, eo⟩ := Kd.S_slice HO.out
   subst eo
   have hm : m = b := by
    obtain ⟨i, rfl, h0, h1, h2, h3, h4, h5, h6⟩ := HI.out
    rw [List.drop_eq_nil_of_le (by omega)] at h2
    simp only [mkk_nodesSum] at h2
    omega
   subst hm
   go_wp2
   go_ret
   exact ⟨rfl, be w0, by repeat (first | (with_reducible first | exact HK.out | apply Kept.alloc | apply Kept.drewN | apply Kept.drew) | exact HK.out)⟩
  have c3b0 : decide (x < (xs.length : Int)) = true := decide_eq_true c3
  have hmx : xs.length ≤ 9223372036854775807 := by
   obtain ⟨Ao, co, eo⟩ := Kd.S_slice HO.out
   exact Kd.F_max (Kd.S_F (eo ▸ HO.out))
  have c0 : 0 ≤ x := by obtain ⟨i, rfl, _⟩ := HI.out; omega
  have c0b : decide (0 ≤ x) = true := decide_eq_true c0
  obtain ⟨Ao, co, eo⟩ := Kd.S_slice HO.out
  subst eo
  obtain ⟨go, co5, eo5, gb5, gl5, cl5, HG5⟩ := Kd.S_form HO.out (by omega)
  cases eo5
  have GB := As.mk gb5
  clear gb5 gl5 HG5
  have HPg := As.mk (show P go from (Kd.S_R HO.out).1 _ rfl)
  obtain ⟨y1, hy1⟩ : ∃ y_ : List S62, y_ = xs.set x.toNat (⟨m, (rd_T62 xs x).f1, (rd_T62 xs x).f2, (rd_T62 xs x).f3⟩ : S62) := ⟨_, rfl⟩
  obtain ⟨y2, hy2⟩ : ∃ y_ : List S62, y_ = y1.set x.toNat (⟨(rd_T62 y1 x).f0, wrap64 (m + 1), (rd_T62 y1 x).f2, (rd_T62 y1 x).f3⟩ : S62) := ⟨_, rfl⟩
  obtain ⟨kt, t, HT, HN⟩ : ∃ kt t, As (mkk_markText.f kt (wrap64 (wrap64 (m + 1) + 1)) = some t) ∧ wrap64 (wrap64 (wrap64 (m + 1) + 1) + 1) = m + 3 := by
   obtain ⟨i, rfl, h0, h1, h2, h3, h4, h5, h6⟩ := HI.out
   have h7 := mkk_nodesSum_drop l i (by omega)
   have e1 := mkk_wS h3 (by omega)
   have e2 := mkk_wS (m := m + 1) (by omega) (by omega)
   have e3 := mkk_wS (m := m + 1 + 1) (by omega) (by omega)
   rw [e1, e2, e3]
   obtain ⟨kt, t, h8⟩ := mkk_markText_some (m + 1 + 1) (by omega)
   exact ⟨kt, t, ⟨h8⟩, by omega⟩
  obtain ⟨y3, hy3⟩ : ∃ y_ : List S62, y_ = y2.set x.toNat (⟨(rd_T62 y2 x).f0, (rd_T62 y2 x).f1, t, (rd_T62 y2 x).f3⟩ : S62) := ⟨_, rfl⟩
  obtain ⟨ki, r1, r2, HR, HE⟩ : ∃ ki r1 r2, As (mkk_markIntS.f ki (rd_T62 y3 x).f3 (wrap64 (wrap64 (wrap64 (m + 1) + 1) + 1)) = some (r1, r2)) ∧ As (∃ i : Nat, wrap64 (x + 1) = (i : Int) ∧ i + (gk - 1) = l.length + 1 ∧ 1 ≤ gk ∧ i ≤ l.length ∧ r1 + (mkk_nodesSum (l.drop i) : Nat) = b ∧ 0 ≤ r1 ∧ b < 4611686018427387904 ∧ (y3.set x.toNat (⟨(rd_T62 y3 x).f0, (rd_T62 y3 x).f1, (rd_T62 y3 x).f2, r2⟩ : S62)).length = l.length ∧ ∀ j : Nat, i ≤ j → (rd_T62 (y3.set x.toNat (⟨(rd_T62 y3 x).f0, (rd_T62 y3 x).f1, (rd_T62 y3 x).f2, r2⟩ : S62)) (j : Int)).f3.length = (rd_T62 l (j : Int)).f3.length) := by
   rw [HN]
   obtain ⟨i, rfl, h0, h1, h2, h3, h4, h5, h6⟩ := HI.out
   have hi : i < l.length := by omega
   have h7 := mkk_nodesSum_drop l i hi
   have l1 : y1.length = l.length := by rw [hy1, List.length_set]; exact h5
   have l2 : y2.length = l.length := by rw [hy2, List.length_set]; exact l1
   have l3 : y3.length = l.length := by rw [hy3, List.length_set]; exact l2
   have e1 : (rd_T62 y3 (i : Int)).f3 = (rd_T62 xs (i : Int)).f3 := by
    rw [hy3, Int.toNat_natCast, mkk_rd62_at _ _ _ (by omega)]
    show (rd_T62 y2 (i : Int)).f3 = _
    rw [hy2, Int.toNat_natCast, mkk_rd62_at _ _ _ (by omega)]
    show (rd_T62 y1 (i : Int)).f3 = _
    rw [hy1, Int.toNat_natCast, mkk_rd62_at _ _ _ (by omega)]
   have e2 := h6 i (Nat.le_refl _)
   obtain ⟨ki, r2, h8⟩ := mkk_markInts_some (rd_T62 y3 (i : Int)).f3 (m + 3) (by rw [e1]; omega) (by omega) (by rw [e1]; omega)
   refine ⟨ki, _, r2, ⟨h8⟩, i + 1, by unfold wrap64; omega, by omega, by omega, by omega, by rw [e1]; omega, by omega, h4, by rw [List.length_set]; exact l3, fun j hj => ?_⟩
   rw [Int.toNat_natCast, mkk_rd62_set _ _ _ _ (by omega), hy3, Int.toNat_natCast, mkk_rd62_set _ _ _ _ (by omega), hy2, Int.toNat_natCast, mkk_rd62_set _ _ _ _ (by omega), hy1, Int.toNat_natCast, mkk_rd62_set _ _ _ _ (by omega)]
   exact h6 j (by omega)
  have Ny1 := As.mk hy1
  have Ny2 := As.mk hy2
  have Ny3 := As.mk hy3
  clear hy1 hy2 hy3 HI HN c3 c0 hmx
  have p0 := eq_true (of_decide_eq_true c0b)
  have q0 := eq_true (of_decide_eq_true c3b0)
  obtain ⟨_, ce1, hcl1, hM1, hcc1, hfr1, hput1⟩ := mkk_S_elemF HO.out z62 x (of_decide_eq_true c0b) (of_decide_eq_true c3b0)
  obtain ⟨v1, rfl, g1⟩ := k62_openM hM1
  have hx1 : wr.cell? ⟨go, x.toNat * 4, none⟩ = some (.int .i64 (rd_T62 xs x).f0) := hcc1 0 _ rfl
  have hf1 : wr.frozen? ⟨go, x.toNat * 4, none⟩ = false := hfr1 0
  have HP1 := As.mk (hput1 (seg := [.int .i64 m]) (j := 0) (x' := (⟨m, (rd_T62 xs x).f1, (rd_T62 xs x).f2, (rd_T62 xs x).f3⟩ : S62)) (show 1 ≤ 4 from by decide) (k62_mkM _ _ _ (⟨m, (rd_T62 xs x).f1, (rd_T62 xs x).f2, (rd_T62 xs x).f3⟩ : S62) g1))
  clear hcl1 hcc1 hfr1 hM1 hput1 g1
  go_wp2_with (first | ((with_reducible refine gate_store (t := 3) (p := 16) rfl ?_); refine store_event (t := 3) (p := 16) (v := ?vo_w11) (w1 := (wr.setCell ⟨go, x.toNat * 4, none⟩ (.int .i64 m))) ?hg ?ho ?hn ?hr ?_; (case ho => rfl); (case hg => rfl); (case hn => rfl); (case hr => first | (go_simp; done) | (go_simp; rfl)); intro w11 hw; have hg : wr.grownBy w11 (some go) := (by rw [hw]; exact HP1.out.2); have hp_ : Kd.S k62 62 w11 w0.heap.size P (.slice (some ⟨go, 0, none⟩) xs.length co) y1 := (by rw [hw, Ny1.out]; exact HP1.out.1); clear HP1 hx1 hf1 HO; have HO := As.mk hp_; replace HB := As.mk ((by rw [hw]; exact below_set HB.out GB.out : Below w0.heap.size w0 w11)); replace HK := As.mk (Kept.of_grown hg HK.out (fun k_ e_ => .inl (by injection e_ with e_; rw [← e_]; exact HPg.out))); clear hg hw hp_; obtain ⟨_, ce2, hcl2, hM2, hcc2, hfr2, hput2⟩ := mkk_S_elemF HO.out z62 x (of_decide_eq_true c0b) (of_decide_eq_true c3b0); obtain ⟨v2, rfl, g2⟩ := k62_openM hM2; have hx2 : w11.cell? ⟨go, x.toNat * 4 + 1, none⟩ = some (.int .i64 (rd_T62 y1 x).f1) := hcc2 1 _ rfl; have hf2 : w11.frozen? ⟨go, x.toNat * 4 + 1, none⟩ = false := hfr2 1; have HP2 := As.mk (hput2 (seg := [.int .i64 (wrap64 (m + 1))]) (j := 1) (x' := (⟨(rd_T62 y1 x).f0, wrap64 (m + 1), (rd_T62 y1 x).f2, (rd_T62 y1 x).f3⟩ : S62)) (show 2 ≤ 4 from by decide) (k62_mkM _ _ _ (⟨(rd_T62 y1 x).f0, wrap64 (m + 1), (rd_T62 y1 x).f2, (rd_T62 y1 x).f3⟩ : S62) g2)); clear hcl2 hcc2 hfr2 hM2 hput2 g2) | ((with_reducible refine gate_store (t := 3) (p := 23) rfl ?_); refine store_event (t := 3) (p := 23) (v := ?vo_w12) (w1 := (w11.setCell ⟨go, x.toNat * 4 + 1, none⟩ (.int .i64 (wrap64 (m + 1))))) ?hg ?ho ?hn ?hr ?_; (case ho => rfl); (case hg => rfl); (case hn => rfl); (case hr => first | (go_simp; done) | (go_simp; rfl)); intro w12 hw; have hg : w11.grownBy w12 (some go) := (by rw [hw]; exact HP2.out.2); have hp_ : Kd.S k62 62 w12 w0.heap.size P (.slice (some ⟨go, 0, none⟩) xs.length co) y2 := (by rw [hw, Ny2.out]; exact HP2.out.1); clear HP2 hx2 hf2 HO; have HO := As.mk hp_; replace HB := As.mk ((by rw [hw]; exact below_set HB.out GB.out : Below w0.heap.size w0 w12)); replace HK := As.mk (Kept.of_grown hg HK.out (fun k_ e_ => .inl (by injection e_ with e_; rw [← e_]; exact HPg.out))); clear hg hw hp_) | ((with_reducible refine gate_callee (f := 42) rfl ?_); refine goesL_ (some 29) rfl rfl Tryz.func42 (by kernel_rfl) rfl #[.int .i64 (wrap64 (wrap64 (m + 1) + 1))] rfl (by (try simp only [lm]); first | done | rfl) ?_; (with_reducible refine (mkk_markText.calls kt _ t _ HT.out).mono ?_); rintro e w13 ⟨rfl, hb⟩; refine ⟨_, rfl, ?_⟩; replace HO := As.mk (Kd.S_below (by (with_reducible repeat (first | apply Kd.S_alloc | apply Kd.S_drewN | apply Kd.S_drew)); exact HO.out) hb); replace HK := As.mk (Kept.below (by repeat (first | (with_reducible first | exact HK.out | apply Kept.alloc | apply Kept.drewN | apply Kept.drew) | exact HK.out)) hb); replace HB := As.mk (below_step (be w0) hb); clear hb; obtain ⟨_, ce3, hcl3, hM3, hcc3, hfr3, hput3⟩ := mkk_S_elemF HO.out z62 x (of_decide_eq_true c0b) (of_decide_eq_true c3b0); obtain ⟨v3, rfl, g3⟩ := k62_openM hM3; have hx3 : w13.cell? ⟨go, x.toNat * 4 + 2, none⟩ = some (.string (rd_T62 y2 x).f2) := hcc3 2 _ rfl; have hf3 : w13.frozen? ⟨go, x.toNat * 4 + 2, none⟩ = false := hfr3 2; have HP3 := As.mk (hput3 (seg := [.string t]) (j := 2) (x' := (⟨(rd_T62 y2 x).f0, (rd_T62 y2 x).f1, t, (rd_T62 y2 x).f3⟩ : S62)) (show 3 ≤ 4 from by decide) (k62_mkM _ _ _ (⟨(rd_T62 y2 x).f0, (rd_T62 y2 x).f1, t, (rd_T62 y2 x).f3⟩ : S62) g3)); clear hcl3 hcc3 hfr3 hM3 hput3 g3) | ((with_reducible refine gate_store (t := 9) (p := 31) rfl ?_); refine store_event (t := 9) (p := 31) (v := ?vo_w14) (w1 := (w13.setCell ⟨go, x.toNat * 4 + 2, none⟩ (.string t))) ?hg ?ho ?hn ?hr ?_; (case ho => rfl); (case hg => rfl); (case hn => rfl); (case hr => first | (go_simp; done) | (go_simp; rfl)); intro w14 hw; have hg : w13.grownBy w14 (some go) := (by rw [hw]; exact HP3.out.2); have hp_ : Kd.S k62 62 w14 w0.heap.size P (.slice (some ⟨go, 0, none⟩) xs.length co) y3 := (by rw [hw, Ny3.out]; exact HP3.out.1); clear HP3 hx3 hf3 HO; have HO := As.mk hp_; replace HB := As.mk ((by rw [hw]; exact below_set HB.out GB.out : Below w0.heap.size w0 w14)); replace HK := As.mk (Kept.of_grown hg HK.out (fun k_ e_ => .inl (by injection e_ with e_; rw [← e_]; exact HPg.out))); clear hg hw hp_; obtain ⟨oki, ce4, hcl4, hM4, hcc4, hoki4, hH4⟩ := Kd.S_lend HO.out z62 x (of_decide_eq_true c0b) (of_decide_eq_true c3b0); obtain ⟨v4, rfl, g4⟩ := k62_openM hM4; obtain ⟨A4, c4, e4⟩ := Kd.R_slice g4; subst e4; have hx4 : w14.cell? ⟨go, x.toNat * 4 + 3, none⟩ = some (.slice A4 (rd_T62 y3 x).f3.length c4) := hcc4 3 _ rfl; have G4 := As.mk g4; have HH4 := As.mk hH4; have HO4 := As.mk hoki4; clear hcl4 hcc4 hM4 hH4 hoki4 g4 HO))
  refine (mkk_markIntS.calls ki oki _ (rd_T62 y3 x).f3 _ r1 r2 w0 _ (be w0) (by (with_reducible repeat (first | apply Kd.R_alloc | apply Kd.R_drewN | apply Kd.R_drew)); exact G4.out) HR.out).mono ?_
  rintro e w15 ⟨rfl, hr_, hb, hkp⟩
  have hM5 : k62.M w15 w0.heap.size oki (⟨(rd_T62 y3 x).f0, (rd_T62 y3 x).f1, (rd_T62 y3 x).f2, r2⟩ : S62) [.int .i64 (rd_T62 y3 x).f0, .int .i64 (rd_T62 y3 x).f1, .string (rd_T62 y3 x).f2, .slice A4 (rd_T62 y3 x).f3.length c4] := k62_mkM w15 w0.heap.size oki (⟨(rd_T62 y3 x).f0, (rd_T62 y3 x).f1, (rd_T62 y3 x).f2, r2⟩ : S62) (Kd.R_reok rfl hr_ (fun k_ e_ => G4.out.1 k_ e_))
  have hH5 := Kd.H_kept HH4.out hkp (fun _ _ h_ => h_)
  have HO := As.mk (Kd.H_back hH5 hM5 (fun _ h_ => h_))
  clear hM5 hH5
  replace HB := As.mk hb
  replace HK := As.mk (Kept.then_ (by repeat (first | (with_reducible first | exact HK.out | apply Kept.alloc | apply Kept.drewN | apply Kept.drew) | exact HK.out)) hkp (fun k_ h_ => .inl (HO4.out k_ h_).1))
  clear hr_ hb hkp HH4 G4 HO4
  go_wp2
  go_roundg (gk - 1)
  case measure => obtain ⟨i, _, _, h_, _⟩ := HE.out; omega
  case rel =>
   obtain ⟨i, h1, h2, h3, h4, h5, h6, h7, h8, h9⟩ := HE.out
   exact ⟨r1, wrap64 (x + 1), _, rfl, rfl, ⟨i, h1, h2, h4, h5, h6, h7, h8, h9⟩, ⟨by (with_reducible repeat (first | apply Kd.S_alloc | apply Kd.S_drewN | apply Kd.S_drew)); exact HO.out⟩, ⟨by repeat (first | (with_reducible first | exact HK.out | apply Kept.alloc | apply Kept.drewN | apply Kept.drew) | exact HK.out)⟩, ⟨be w0⟩⟩
/-! mkk_markFnS -/
theorem mkk_le_ev {α : Type} {F : Nat → Option α} (hm : ∀ k, LeO (F k) (F (k + 1))) {k : Nat} {t : α} (h : F k = some t) : ∀ d, F (k + d) = some t
  | 0 => h
  | d + 1 => hm (k + d) t (mkk_le_ev hm h d)
theorem mkk_markText_ev (a : Int) (h : a < 4611686018427387904) : ∃ K t, ∀ k, K ≤ k → mkk_markText.f k a = some t := by
  obtain ⟨K, t, e⟩ := mkk_markText_some a h
  exact ⟨K, t, fun k hk => by have := mkk_le_ev (F := fun k => mkk_markText.f k a) (mkk_markText.mono a) e (k - K); rwa [show K + (k - K) = k by omega] at this⟩
theorem mkk_markParams_l0 : ∀ (d i : Nat) (xs : List S58) (a : Int), i + d = xs.length → xs.length < 4611686018427387904 → 0 ≤ a → a + 2 * d < 4611686018427387904 → ∃ K r, ∀ k, K ≤ k → mkk_markParamS.l0 k xs a (i : Int) = some (a + 2 * d, r)
  | 0, i, xs, a, h, hl, h0, h1 => ⟨1, xs, fun k hk => by
    obtain ⟨k, rfl⟩ : ∃ j, k = j + 1 := ⟨k - 1, by omega⟩
    rw [mkk_markParamS.l0, if_neg (by omega)]; simp⟩
  | d + 1, i, xs, a, h, hl, h0, h1 => by
    obtain ⟨K1, t, e1⟩ := mkk_markText_ev a (by omega)
    obtain ⟨K2, r, e2⟩ := mkk_markParams_l0 d (i + 1) ((xs.set i (⟨t, (rd_T58 xs (i : Int)).f1⟩ : S58)).set i (⟨(rd_T58 (xs.set i (⟨t, (rd_T58 xs (i : Int)).f1⟩ : S58)) (i : Int)).f0, a + 1⟩ : S58)) (a + 2) (by rw [List.length_set, List.length_set]; omega) (by rw [List.length_set, List.length_set]; exact hl) (by omega) (by omega)
    refine ⟨K1 + K2 + 1, r, fun k hk => ?_⟩
    obtain ⟨k, rfl⟩ : ∃ j, k = j + 1 := ⟨k - 1, by omega⟩
    rw [mkk_markParamS.l0, if_pos (by omega), e1 k (by omega), Option.bind_some, if_pos (by omega), Option.bind_some, mkk_wS h0 (by omega), mkk_wS (m := a + 1) (by omega) (by omega), mkk_wS (m := (i : Int)) (by omega) (by omega), Int.toNat_natCast]
    rw [show ((i : Int) + 1) = ((i + 1 : Nat) : Int) by omega, show a + 1 + 1 = a + 2 by omega, e2 k (by omega)]
    congr 2
    omega
theorem mkk_markParams_some (xs : List S58) (a : Int) (hl : xs.length < 4611686018427387904) (h0 : 0 ≤ a) (h1 : a + 2 * xs.length < 4611686018427387904) : ∃ k r, mkk_markParamS.f k xs a = some (a + 2 * xs.length, r) := by
  obtain ⟨K, r, e⟩ := mkk_markParams_l0 xs.length 0 xs a (by omega) hl h0 h1
  exact ⟨K, r, e K (Nat.le_refl _)⟩
def mkk_fnsSum : List S56 → Nat
  | [] => 0
  | x :: r => 4 + 2 * x.f1.length + mkk_fnsSum r
theorem mkk_rd56 (xs : List S56) (i : Nat) (h : i < xs.length) : rd_T56 xs (i : Int) = xs[i] := by
  unfold rd_T56
  rw [Int.toNat_natCast, List.getD_eq_getElem?_getD, List.getElem?_eq_getElem h]
  rfl
theorem mkk_fnsSum_drop (xs : List S56) (i : Nat) (h : i < xs.length) : mkk_fnsSum (xs.drop i) = 4 + 2 * (rd_T56 xs (i : Int)).f1.length + mkk_fnsSum (xs.drop (i + 1)) := by
  rw [List.drop_eq_getElem_cons h, mkk_fnsSum, mkk_rd56 xs i h]
theorem mkk_rd56_set (xs : List S56) (i j : Nat) (x : S56) (h : i ≠ j) : rd_T56 (xs.set i x) (j : Int) = rd_T56 xs (j : Int) := by
  unfold rd_T56
  rw [Int.toNat_natCast, List.getD_eq_getElem?_getD, List.getD_eq_getElem?_getD, List.getElem?_set_ne h]
theorem mkk_rd56_at (xs : List S56) (i : Nat) (x : S56) (h : i < xs.length) : rd_T56 (xs.set i x) (i : Int) = x := by
  unfold rd_T56
  rw [Int.toNat_natCast, List.getD_eq_getElem?_getD, List.getElem?_set_self h]
  rfl
set_option maxHeartbeats 8000000 in
set_option maxRecDepth 100000 in
theorem mkk_markFnS.calls (P : Nat → Prop) (u : Value) (l : List S56) (a : Int) (w0 w : World) (hB : Below w0.heap.size w0 w) (ho : Kd.S k56 56 w w0.heap.size P u l) (ha : 0 ≤ a) (hs : a + (mkk_fnsSum l : Nat) < 4611686018427387904) :
    Calls Tryz.prog 41 #[u, .int .i64 a] w fun e w' => e = .returned (.int .i64 (a + (mkk_fnsSum l : Nat))) ∧ Below w0.heap.size w0 w' ∧ Kept w w' P := by
 have HO0 := As.mk ho
 have HK := As.mk (Kept.refl w P)
 have HB := As.mk hB
 clear hB ho
 obtain ⟨b, hb⟩ : ∃ b : Int, b = a + (mkk_fnsSum l : Nat) := ⟨_, rfl⟩
 rw [← hb] at hs ⊢
 have H0 := As.mk (show ((0 : Nat) ≤ l.length ∧ a + (mkk_fnsSum (l.drop 0) : Nat) = b ∧ 0 ≤ a ∧ b < 4611686018427387904) from ⟨Nat.zero_le _, by rw [List.drop_zero]; exact hb.symm, ha, hs⟩)
 clear hb hs ha
 go_enter Tryz.func41, Tryz.ntmps41
 go_wp2
 go_loopg [1, 5] (l.length + 1) (fun kq v1 v5 w' => ∃ (m x : Int) (xs : List S56), v1 = .int .i64 m ∧ v5 = .int .i64 x ∧ As (∃ i : Nat, x = (i : Int) ∧ i + kq = l.length + 1 ∧ i ≤ l.length ∧ m + (mkk_fnsSum (l.drop i) : Nat) = b ∧ 0 ≤ m ∧ b < 4611686018427387904 ∧ xs.length = l.length ∧ ∀ j : Nat, i ≤ j → (rd_T56 xs (j : Int)).f1.length = (rd_T56 l (j : Int)).f1.length) ∧ As (Kd.S k56 56 w' w0.heap.size P u xs) ∧ As (Kept w w' P) ∧ As (Below w0.heap.size w0 w'))
 case atStart => exact ⟨a, 0, l, rfl, rfl, ⟨0, rfl, by omega, H0.out.1, H0.out.2.1, H0.out.2.2.1, H0.out.2.2.2, rfl, fun _ _ => rfl⟩, ⟨by (with_reducible repeat (first | apply Kd.S_alloc | apply Kd.S_drewN | apply Kd.S_drew)); exact HO0.out⟩, ⟨by repeat (first | (with_reducible first | exact HK.out | apply Kept.alloc | apply Kept.drewN | apply Kept.drew) | exact HK.out)⟩, ⟨be w0⟩⟩
 case round =>
  clear H0 HO0
  obtain ⟨m, x, xs, rfl, rfl, HI, HO, HK, HB⟩ := hrel
  by_cases c3 : x < (xs.length : Int)
  rotate_left
  ·
   have c3b0 : decide (x < (xs.length : Int)) = false := decide_eq_false c3
   obtain ⟨Ao, co, eo⟩ := Kd.S_slice HO.out
   subst eo
   have hm : m = b := by
    obtain ⟨i, rfl, h0, h1, h2, h3, h4, h5, h6⟩ := HI.out
    rw [List.drop_eq_nil_of_le (by omega)] at h2
    simp only [mkk_fnsSum] at h2
    omega
   subst hm
   go_wp2
   go_ret
   exact ⟨rfl, be w0, by repeat (first | (with_reducible first | exact HK.out | apply Kept.alloc | apply Kept.drewN | apply Kept.drew) | exact HK.out)⟩
  have c3b0 : decide (x < (xs.length : Int)) = true := decide_eq_true c3
  have hmx : xs.length ≤ 9223372036854775807 := by
   obtain ⟨Ao, co, eo⟩ := Kd.S_slice HO.out
   exact Kd.F_max (Kd.S_F (eo ▸ HO.out))
  have c0 : 0 ≤ x := by obtain ⟨i, rfl, _⟩ := HI.out; omega
  have c0b : decide (0 ≤ x) = true := decide_eq_true c0
  obtain ⟨Ao, co, eo⟩ := Kd.S_slice HO.out
  subst eo
  obtain ⟨go, co5, eo5, gb5, gl5, cl5, HG5⟩ := Kd.S_form HO.out (by omega)
  cases eo5
  have GB := As.mk gb5
  clear gb5 gl5 HG5
  have HPg := As.mk (show P go from (Kd.S_R HO.out).1 _ rfl)
  obtain ⟨kt, t, HT, HN⟩ : ∃ kt t, As (mkk_markText.f kt m = some t) ∧ wrap64 (m + 1) = m + 1 := by
   obtain ⟨i, rfl, h0, h1, h2, h3, h4, h5, h6⟩ := HI.out
   have h7 := mkk_fnsSum_drop l i (by omega)
   obtain ⟨kt, t, h8⟩ := mkk_markText_some m (by omega)
   exact ⟨kt, t, ⟨h8⟩, mkk_wS h3 (by omega)⟩
  obtain ⟨y1, hy1⟩ : ∃ y_ : List S56, y_ = xs.set x.toNat (⟨t, (rd_T56 xs x).f1, (rd_T56 xs x).f2, (rd_T56 xs x).f3, (rd_T56 xs x).f4⟩ : S56) := ⟨_, rfl⟩
  obtain ⟨ki, r1, r2, HR, HE⟩ : ∃ ki r1 r2, As (mkk_markParamS.f ki (rd_T56 y1 x).f1 (wrap64 (m + 1)) = some (r1, r2)) ∧ ∀ y2 y3 y4 y5 : List S56, y2 = y1.set x.toNat (⟨(rd_T56 y1 x).f0, r2, (rd_T56 y1 x).f2, (rd_T56 y1 x).f3, (rd_T56 y1 x).f4⟩ : S56) → y3 = y2.set x.toNat (⟨(rd_T56 y2 x).f0, (rd_T56 y2 x).f1, r1, (rd_T56 y2 x).f3, (rd_T56 y2 x).f4⟩ : S56) → y4 = y3.set x.toNat (⟨(rd_T56 y3 x).f0, (rd_T56 y3 x).f1, (rd_T56 y3 x).f2, (wrap64 (r1 + 1)), (rd_T56 y3 x).f4⟩ : S56) → y5 = y4.set x.toNat (⟨(rd_T56 y4 x).f0, (rd_T56 y4 x).f1, (rd_T56 y4 x).f2, (rd_T56 y4 x).f3, (wrap64 (wrap64 (r1 + 1) + 1))⟩ : S56) → ∃ i : Nat, wrap64 (x + 1) = (i : Int) ∧ i + (gk - 1) = l.length + 1 ∧ 1 ≤ gk ∧ i ≤ l.length ∧ (wrap64 (wrap64 (wrap64 (r1 + 1) + 1) + 1)) + (mkk_fnsSum (l.drop i) : Nat) = b ∧ 0 ≤ (wrap64 (wrap64 (wrap64 (r1 + 1) + 1) + 1)) ∧ b < 4611686018427387904 ∧ y5.length = l.length ∧ ∀ j : Nat, i ≤ j → (rd_T56 y5 (j : Int)).f1.length = (rd_T56 l (j : Int)).f1.length := by
   rw [HN]
   obtain ⟨i, rfl, h0, h1, h2, h3, h4, h5, h6⟩ := HI.out
   have hi : i < l.length := by omega
   have h7 := mkk_fnsSum_drop l i hi
   have l1 : y1.length = l.length := by rw [hy1, List.length_set]; exact h5
   have e1 : (rd_T56 y1 (i : Int)).f1 = (rd_T56 xs (i : Int)).f1 := by
    rw [hy1, Int.toNat_natCast, mkk_rd56_at _ _ _ (by omega)]
   have e2 := h6 i (Nat.le_refl _)
   obtain ⟨ki, r2, h8⟩ := mkk_markParams_some (rd_T56 y1 (i : Int)).f1 (m + 1) (by rw [e1]; omega) (by omega) (by rw [e1]; omega)
   refine ⟨ki, _, r2, ⟨h8⟩, fun y2 y3 y4 y5 hy2 hy3 hy4 hy5 => ⟨i + 1, by unfold wrap64; omega, by omega, by omega, by omega, ?_⟩⟩
   have g1 := mkk_wS (m := m + 1 + 2 * (rd_T56 y1 (i : Int)).f1.length) (by omega) (by rw [e1]; omega)
   have g2 := mkk_wS (m := m + 1 + 2 * (rd_T56 y1 (i : Int)).f1.length + 1) (by omega) (by rw [e1]; omega)
   have g3 := mkk_wS (m := m + 1 + 2 * (rd_T56 y1 (i : Int)).f1.length + 1 + 1) (by omega) (by rw [e1]; omega)
   rw [g1, g2, g3]
   refine ⟨by rw [e1]; omega, by omega, h4, by rw [hy5, List.length_set, hy4, List.length_set, hy3, List.length_set, hy2, List.length_set]; exact l1, fun j hj => ?_⟩
   rw [hy5, Int.toNat_natCast, mkk_rd56_set _ _ _ _ (by omega), hy4, Int.toNat_natCast, mkk_rd56_set _ _ _ _ (by omega), hy3, Int.toNat_natCast, mkk_rd56_set _ _ _ _ (by omega), hy2, Int.toNat_natCast, mkk_rd56_set _ _ _ _ (by omega), hy1, Int.toNat_natCast, mkk_rd56_set _ _ _ _ (by omega)]
   exact h6 j (by omega)
  obtain ⟨y2, hy2⟩ : ∃ y_ : List S56, y_ = y1.set x.toNat (⟨(rd_T56 y1 x).f0, r2, (rd_T56 y1 x).f2, (rd_T56 y1 x).f3, (rd_T56 y1 x).f4⟩ : S56) := ⟨_, rfl⟩
  obtain ⟨y3, hy3⟩ : ∃ y_ : List S56, y_ = y2.set x.toNat (⟨(rd_T56 y2 x).f0, (rd_T56 y2 x).f1, r1, (rd_T56 y2 x).f3, (rd_T56 y2 x).f4⟩ : S56) := ⟨_, rfl⟩
  obtain ⟨y4, hy4⟩ : ∃ y_ : List S56, y_ = y3.set x.toNat (⟨(rd_T56 y3 x).f0, (rd_T56 y3 x).f1, (rd_T56 y3 x).f2, (wrap64 (r1 + 1)), (rd_T56 y3 x).f4⟩ : S56) := ⟨_, rfl⟩
  obtain ⟨y5, hy5⟩ : ∃ y_ : List S56, y_ = y4.set x.toNat (⟨(rd_T56 y4 x).f0, (rd_T56 y4 x).f1, (rd_T56 y4 x).f2, (rd_T56 y4 x).f3, (wrap64 (wrap64 (r1 + 1) + 1))⟩ : S56) := ⟨_, rfl⟩
  replace HE := As.mk (HE y2 y3 y4 y5 hy2 hy3 hy4 hy5)
  have Ny1 := As.mk hy1
  have Ny2 := As.mk hy2
  have Ny3 := As.mk hy3
  have Ny4 := As.mk hy4
  have Ny5 := As.mk hy5
  clear hy1 hy2 hy3 hy4 hy5 HI HN c3 c0 hmx
  have p0 := eq_true (of_decide_eq_true c0b)
  have q0 := eq_true (of_decide_eq_true c3b0)
  go_wp2_with (first | ((with_reducible refine gate_callee (f := 42) rfl ?_); refine goesL_ (some 15) rfl rfl Tryz.func42 (by kernel_rfl) rfl #[.int .i64 m] rfl (by (try simp only [lm]); first | done | rfl) ?_; (with_reducible refine (mkk_markText.calls kt _ t _ HT.out).mono ?_); rintro e w11 ⟨rfl, hb⟩; refine ⟨_, rfl, ?_⟩; replace HO := As.mk (Kd.S_below (by (with_reducible repeat (first | apply Kd.S_alloc | apply Kd.S_drewN | apply Kd.S_drew)); exact HO.out) hb); replace HK := As.mk (Kept.below (by repeat (first | (with_reducible first | exact HK.out | apply Kept.alloc | apply Kept.drewN | apply Kept.drew) | exact HK.out)) hb); replace HB := As.mk (below_step (be w0) hb); clear hb; obtain ⟨_, ce1, hcl1, hM1, hcc1, hfr1, hput1⟩ := mkk_S_elemF HO.out z56 x (of_decide_eq_true c0b) (of_decide_eq_true c3b0); obtain ⟨v1, rfl, g1⟩ := k56_openM hM1; have hx1 : w11.cell? ⟨go, x.toNat * 5, none⟩ = some (.string (rd_T56 xs x).f0) := hcc1 0 _ rfl; have hf1 : w11.frozen? ⟨go, x.toNat * 5, none⟩ = false := hfr1 0; have HP1 := As.mk (hput1 (seg := [.string t]) (j := 0) (x' := (⟨t, (rd_T56 xs x).f1, (rd_T56 xs x).f2, (rd_T56 xs x).f3, (rd_T56 xs x).f4⟩ : S56)) (show 1 ≤ 5 from by decide) (k56_mkM _ _ _ (⟨t, (rd_T56 xs x).f1, (rd_T56 xs x).f2, (rd_T56 xs x).f3, (rd_T56 xs x).f4⟩ : S56) g1)); clear hcl1 hcc1 hfr1 hM1 hput1 g1) | ((with_reducible refine gate_store (t := 9) (p := 17) rfl ?_); refine store_event (t := 9) (p := 17) (v := ?vo_w12) (w1 := (w11.setCell ⟨go, x.toNat * 5, none⟩ (.string t))) ?hg ?ho ?hn ?hr ?_; (case ho => rfl); (case hg => rfl); (case hn => rfl); (case hr => first | (go_simp; done) | (go_simp; rfl)); intro w12 hw; have hg : w11.grownBy w12 (some go) := (by rw [hw]; exact HP1.out.2); have hp_ : Kd.S k56 56 w12 w0.heap.size P (.slice (some ⟨go, 0, none⟩) xs.length co) y1 := (by rw [hw, Ny1.out]; exact HP1.out.1); clear HP1 hx1 hf1 HO; have HO := As.mk hp_; replace HB := As.mk ((by rw [hw]; exact below_set HB.out GB.out : Below w0.heap.size w0 w12)); replace HK := As.mk (Kept.of_grown hg HK.out (fun k_ e_ => .inl (by injection e_ with e_; rw [← e_]; exact HPg.out))); clear hg hw hp_; obtain ⟨oki, ce4, hcl4, hM4, hcc4, hoki4, hH4⟩ := Kd.S_lend HO.out z56 x (of_decide_eq_true c0b) (of_decide_eq_true c3b0); obtain ⟨v4, rfl, g4⟩ := k56_openM hM4; obtain ⟨A4, c4, e4⟩ := Kd.R_slice g4; subst e4; have hx4 : w12.cell? ⟨go, x.toNat * 5 + 1, none⟩ = some (.slice A4 (rd_T56 y1 x).f1.length c4) := hcc4 1 _ rfl; have G4 := As.mk g4; have HH4 := As.mk hH4; have HO4 := As.mk hoki4; clear hcl4 hcc4 hM4 hH4 hoki4 g4 HO))
  refine (mkk_markParamS.calls ki oki _ (rd_T56 y1 x).f1 _ r1 r2 w0 _ (be w0) (by (with_reducible repeat (first | apply Kd.R_alloc | apply Kd.R_drewN | apply Kd.R_drew)); exact G4.out) HR.out).mono ?_
  rintro e w15 ⟨rfl, hr_, hb, hkp⟩
  have hM5 : k56.M w15 w0.heap.size oki (⟨(rd_T56 y1 x).f0, r2, (rd_T56 y1 x).f2, (rd_T56 y1 x).f3, (rd_T56 y1 x).f4⟩ : S56) [.string (rd_T56 y1 x).f0, .slice A4 (rd_T56 y1 x).f1.length c4, .int .i64 (rd_T56 y1 x).f2, .int .i64 (rd_T56 y1 x).f3, .int .i64 (rd_T56 y1 x).f4] := k56_mkM w15 w0.heap.size oki (⟨(rd_T56 y1 x).f0, r2, (rd_T56 y1 x).f2, (rd_T56 y1 x).f3, (rd_T56 y1 x).f4⟩ : S56) (Kd.R_reok rfl hr_ (fun k_ e_ => G4.out.1 k_ e_))
  have hH5 := Kd.H_kept HH4.out hkp (fun _ _ h_ => h_)
  have hO5 := Kd.H_back hH5 hM5 (fun _ h_ => h_)
  rw [← Ny2.out] at hO5
  have HO := As.mk hO5
  clear hM5 hH5 hO5
  replace HB := As.mk hb
  replace HK := As.mk (Kept.then_ (by repeat (first | (with_reducible first | exact HK.out | apply Kept.alloc | apply Kept.drewN | apply Kept.drew) | exact HK.out)) hkp (fun k_ h_ => .inl (HO4.out k_ h_).1))
  clear hr_ hb hkp HH4 G4 HO4
  obtain ⟨_, ce5, hcl5, hM5, hcc5, hfr5, hput5⟩ := mkk_S_elemF HO.out z56 x (of_decide_eq_true c0b) (of_decide_eq_true c3b0)
  obtain ⟨v5, rfl, g5⟩ := k56_openM hM5
  have hx5 : w15.cell? ⟨go, x.toNat * 5 + 2, none⟩ = some (.int .i64 (rd_T56 y2 x).f2) := hcc5 2 _ rfl
  have hf5 : w15.frozen? ⟨go, x.toNat * 5 + 2, none⟩ = false := hfr5 2
  have HP5 := As.mk (hput5 (seg := [.int .i64 r1]) (j := 2) (x' := (⟨(rd_T56 y2 x).f0, (rd_T56 y2 x).f1, r1, (rd_T56 y2 x).f3, (rd_T56 y2 x).f4⟩ : S56)) (show 3 ≤ 5 from by decide) (k56_mkM _ _ _ (⟨(rd_T56 y2 x).f0, (rd_T56 y2 x).f1, r1, (rd_T56 y2 x).f3, (rd_T56 y2 x).f4⟩ : S56) g5))
  clear hcl5 hcc5 hfr5 hM5 hput5 g5
  go_wp2_with (first | ((with_reducible refine gate_store (t := 3) (p := 31) rfl ?_); refine store_event (t := 3) (p := 31) (v := ?vo_w16) (w1 := (w15.setCell ⟨go, x.toNat * 5 + 2, none⟩ (.int .i64 r1))) ?hg ?ho ?hn ?hr ?_; (case ho => rfl); (case hg => rfl); (case hn => rfl); (case hr => first | (go_simp; done) | (go_simp; rfl)); intro w16 hw; have hg : w15.grownBy w16 (some go) := (by rw [hw]; exact HP5.out.2); have hp_ : Kd.S k56 56 w16 w0.heap.size P (.slice (some ⟨go, 0, none⟩) xs.length co) y3 := (by rw [hw, Ny3.out]; exact HP5.out.1); clear HP5 hx5 hf5 HO; have HO := As.mk hp_; replace HB := As.mk ((by rw [hw]; exact below_set HB.out GB.out : Below w0.heap.size w0 w16)); replace HK := As.mk (Kept.of_grown hg HK.out (fun k_ e_ => .inl (by injection e_ with e_; rw [← e_]; exact HPg.out))); clear hg hw hp_; obtain ⟨_, ce6, hcl6, hM6, hcc6, hfr6, hput6⟩ := mkk_S_elemF HO.out z56 x (of_decide_eq_true c0b) (of_decide_eq_true c3b0); obtain ⟨v6, rfl, g6⟩ := k56_openM hM6; have hx6 : w16.cell? ⟨go, x.toNat * 5 + 3, none⟩ = some (.int .i64 (rd_T56 y3 x).f3) := hcc6 3 _ rfl; have hf6 : w16.frozen? ⟨go, x.toNat * 5 + 3, none⟩ = false := hfr6 3; have HP6 := As.mk (hput6 (seg := [.int .i64 (wrap64 (r1 + 1))]) (j := 3) (x' := (⟨(rd_T56 y3 x).f0, (rd_T56 y3 x).f1, (rd_T56 y3 x).f2, (wrap64 (r1 + 1)), (rd_T56 y3 x).f4⟩ : S56)) (show 4 ≤ 5 from by decide) (k56_mkM _ _ _ (⟨(rd_T56 y3 x).f0, (rd_T56 y3 x).f1, (rd_T56 y3 x).f2, (wrap64 (r1 + 1)), (rd_T56 y3 x).f4⟩ : S56) g6)); clear hcl6 hcc6 hfr6 hM6 hput6 g6) | ((with_reducible refine gate_store (t := 3) (p := 38) rfl ?_); refine store_event (t := 3) (p := 38) (v := ?vo_w17) (w1 := (w16.setCell ⟨go, x.toNat * 5 + 3, none⟩ (.int .i64 (wrap64 (r1 + 1))))) ?hg ?ho ?hn ?hr ?_; (case ho => rfl); (case hg => rfl); (case hn => rfl); (case hr => first | (go_simp; done) | (go_simp; rfl)); intro w17 hw; have hg : w16.grownBy w17 (some go) := (by rw [hw]; exact HP6.out.2); have hp_ : Kd.S k56 56 w17 w0.heap.size P (.slice (some ⟨go, 0, none⟩) xs.length co) y4 := (by rw [hw, Ny4.out]; exact HP6.out.1); clear HP6 hx6 hf6 HO; have HO := As.mk hp_; replace HB := As.mk ((by rw [hw]; exact below_set HB.out GB.out : Below w0.heap.size w0 w17)); replace HK := As.mk (Kept.of_grown hg HK.out (fun k_ e_ => .inl (by injection e_ with e_; rw [← e_]; exact HPg.out))); clear hg hw hp_; obtain ⟨_, ce7, hcl7, hM7, hcc7, hfr7, hput7⟩ := mkk_S_elemF HO.out z56 x (of_decide_eq_true c0b) (of_decide_eq_true c3b0); obtain ⟨v7, rfl, g7⟩ := k56_openM hM7; have hx7 : w17.cell? ⟨go, x.toNat * 5 + 4, none⟩ = some (.int .i64 (rd_T56 y4 x).f4) := hcc7 4 _ rfl; have hf7 : w17.frozen? ⟨go, x.toNat * 5 + 4, none⟩ = false := hfr7 4; have HP7 := As.mk (hput7 (seg := [.int .i64 (wrap64 (wrap64 (r1 + 1) + 1))]) (j := 4) (x' := (⟨(rd_T56 y4 x).f0, (rd_T56 y4 x).f1, (rd_T56 y4 x).f2, (rd_T56 y4 x).f3, (wrap64 (wrap64 (r1 + 1) + 1))⟩ : S56)) (show 5 ≤ 5 from by decide) (k56_mkM _ _ _ (⟨(rd_T56 y4 x).f0, (rd_T56 y4 x).f1, (rd_T56 y4 x).f2, (rd_T56 y4 x).f3, (wrap64 (wrap64 (r1 + 1) + 1))⟩ : S56) g7)); clear hcl7 hcc7 hfr7 hM7 hput7 g7) | ((with_reducible refine gate_store (t := 3) (p := 45) rfl ?_); refine store_event (t := 3) (p := 45) (v := ?vo_w18) (w1 := (w17.setCell ⟨go, x.toNat * 5 + 4, none⟩ (.int .i64 (wrap64 (wrap64 (r1 + 1) + 1))))) ?hg ?ho ?hn ?hr ?_; (case ho => rfl); (case hg => rfl); (case hn => rfl); (case hr => first | (go_simp; done) | (go_simp; rfl)); intro w18 hw; have hg : w17.grownBy w18 (some go) := (by rw [hw]; exact HP7.out.2); have hp_ : Kd.S k56 56 w18 w0.heap.size P (.slice (some ⟨go, 0, none⟩) xs.length co) y5 := (by rw [hw, Ny5.out]; exact HP7.out.1); clear HP7 hx7 hf7 HO; have HO := As.mk hp_; replace HB := As.mk ((by rw [hw]; exact below_set HB.out GB.out : Below w0.heap.size w0 w18)); replace HK := As.mk (Kept.of_grown hg HK.out (fun k_ e_ => .inl (by injection e_ with e_; rw [← e_]; exact HPg.out))); clear hg hw hp_))
  go_roundg (gk - 1)
  case measure => obtain ⟨i, _, _, h_, _⟩ := HE.out; omega
  case rel =>
   obtain ⟨i, h1, h2, h3, h4, h5, h6, h7, h8, h9⟩ := HE.out
   exact ⟨_, wrap64 (x + 1), _, rfl, rfl, ⟨i, h1, h2, h4, h5, h6, h7, h8, h9⟩, ⟨by (with_reducible repeat (first | apply Kd.S_alloc | apply Kd.S_drewN | apply Kd.S_drew)); exact HO.out⟩, ⟨by repeat (first | (with_reducible first | exact HK.out | apply Kept.alloc | apply Kept.drewN | apply Kept.drew) | exact HK.out)⟩, ⟨be w0⟩⟩

/-! markProgram -/
theorem mkk_tyne {k base base2 : Nat} {es es2 : List Nat} {p p2 : Prop} {W : World} (h : p ∧ base ≤ k ∧ k < W.heap.size ∧ ∃ q, q ∈ es ∧ ∃ cells, W.heap[k]? = some (.cells cells q (0, 0))) (h2 : p2 ∧ base2 ≤ k ∧ k < W.heap.size ∧ ∃ q, q ∈ es2 ∧ ∃ cells, W.heap[k]? = some (.cells cells q (0, 0))) (hd : ∀ q, q ∈ es → q ∉ es2) : False := by
  obtain ⟨_, _, _, q, hq, c, hc⟩ := h
  obtain ⟨_, _, _, q2, hq2, c2, hc2⟩ := h2
  rw [hc] at hc2
  injection hc2 with hc2
  injection hc2 with _ e _
  subst e
  exact hd q hq hq2
def laws_markProgram.f (l1 : List S62) (l2 : List S56) (a : Int) : Option Int := if 0 ≤ a ∧ a + ((mkk_nodesSum l1 + mkk_fnsSum l2 : Nat) : Int) < 4611686018427387904 then some (a + ((mkk_nodesSum l1 + mkk_fnsSum l2 : Nat) : Int)) else none
set_option maxHeartbeats 8000000 in
set_option maxRecDepth 100000 in
theorem laws_markProgram.calls (P1 : Nat → Prop) (u1 : Value) (l1 : List S62) (P2 : Nat → Prop) (u2 : Value) (l2 : List S56) (a r : Int) (w0 w : World) (hB : Below w0.heap.size w0 w) (h1 : Kd.S k62 62 w w0.heap.size P1 u1 l1) (h2 : Kd.S k56 56 w w0.heap.size P2 u2 l2) (h : laws_markProgram.f l1 l2 a = some r) :
    Calls Tryz.prog 15 #[.agg #[u1, u2], .int .i64 a] w fun e w' => e = .returned (.int .i64 r) ∧ Below w0.heap.size w0 w' ∧ Kept w w' (fun k => P1 k ∨ P2 k) := by
 rw [laws_markProgram.f] at h
 by_cases c : 0 ≤ a ∧ a + ((mkk_nodesSum l1 + mkk_fnsSum l2 : Nat) : Int) < 4611686018427387904
 rotate_left
 · rw [if_neg c] at h; cases h
 rw [if_pos c] at h
 obtain rfl := Option.some.inj h
 have HC := As.mk c
 have HO1 := As.mk h1
 have HO2 := As.mk h2
 have HB := As.mk hB
 clear h c h1 h2 hB
 go_enter Tryz.func15, Tryz.ntmps15
 obtain ⟨A1, c1, e1⟩ := Kd.S_slice HO1.out
 obtain ⟨A2, c2, e2⟩ := Kd.S_slice HO2.out
 subst e1
 subst e2
 go_wp2_with (fail)
 obtain ⟨W1, hW⟩ : ∃ W1, W1 = w.alloc (Obj.cells #[Value.slice A1 l1.length c1, Value.slice A2 l2.length c2] 32) := ⟨_, rfl⟩
 have hB1 : Below w0.heap.size w0 W1 := by rw [hW]; exact below_alloc HB.out _
 have hK1 : Kept w W1 (fun k => P1 k ∨ P2 k) := by rw [hW]; exact Kept.alloc (Kept.refl _ _) _
 have hX1 : W1.heap[w.heap.size]? = some (.cells #[Value.slice A1 l1.length c1, Value.slice A2 l2.length c2] 32 (0, 0)) := by rw [hW]; exact Array.getElem?_push_size
 have g1 : Kd.S k62 62 W1 w0.heap.size (fun k => P1 k ∧ k < w.heap.size) (.slice A1 l1.length c1) l1 := by rw [hW]; exact Kd.S_alloc (Kd.S_mono (Kd.S_bound HO1.out) (fun k h => ⟨h.1, h.2.2.1⟩)) _
 have g2 : Kd.S k56 56 W1 w0.heap.size (fun k => P2 k ∧ k < w.heap.size) (.slice A2 l2.length c2) l2 := by rw [hW]; exact Kd.S_alloc (Kd.S_mono (Kd.S_bound HO2.out) (fun k h => ⟨h.1, h.2.2.1⟩)) _
 rw [← hW]
 clear hW HO1 HO2 HB
 refine (mkk_markNodeS.calls _ _ l1 a w0 W1 hB1 (Kd.S_bound g1) HC.out.1 (by have := HC.out.2; omega)).mono ?_
 rintro e w2 ⟨rfl, hB2, hkp⟩
 have g3 := Kd.S_kept (Kd.S_bound g2) hkp (fun k h3 h4 => mkk_tyne h4 h3 (by decide))
 have g4 : Kd.S k56 56 w2 w0.heap.size (fun k => P2 k ∧ k < w.heap.size) (.slice A2 l2.length c2) l2 := Kd.S_mono g3 (fun k h => h.1)
 have hX2 := blk_kept hX1 hkp (fun h => Nat.lt_irrefl _ h.1.2)
 have hK2 : Kept w w2 (fun k => P1 k ∨ P2 k) := Kept.then_ hK1 hkp (fun k h => .inl (.inl h.1.1))
 have hx2 : w2.cell? ⟨w.heap.size, 1, none⟩ = some (Value.slice A2 l2.length c2) := (blk_cell hX2 1).trans rfl
 clear hX1 hX2 hkp g1 g2 g3 hB1 hK1
 go_wp2_with (fail)
 refine (mkk_markFnS.calls _ _ l2 _ w0 w2 hB2 g4 (by have := HC.out.1; omega) (by have := HC.out.2; omega)).mono ?_
 rintro e w3 ⟨rfl, hB3, hkp⟩
 have hK3 : Kept w w3 (fun k => P1 k ∨ P2 k) := Kept.then_ hK2 hkp (fun k h => .inl (.inr h.1))
 go_wp2
 go_ret
 exact ⟨by rw [show a + ((mkk_nodesSum l1 + mkk_fnsSum l2 : Nat) : Int) = a + (mkk_nodesSum l1 : Nat) + (mkk_fnsSum l2 : Nat) by omega]; rfl, hB3, hK3⟩
/-! for the law's text -/
theorem mkk_tyb {k base : Nat} {es : List Nat} {p : Prop} {W : World} (h : p ∧ base ≤ k ∧ k < W.heap.size ∧ ∃ q, q ∈ es ∧ ∃ cells, W.heap[k]? = some (.cells cells q (0, 0))) {t : Nat} {cells2 : Array Value} (h2 : W.heap[k]? = some (.cells cells2 t (0, 0))) (hd : ∀ q, q ∈ es → q ≠ t) : False := by
  obtain ⟨_, _, _, q, hq, c, hc⟩ := h
  rw [hc] at h2
  injection h2 with h2
  injection h2 with _ e _
  exact hd q hq e
theorem mkk_tyr {k base : Nat} {es : List Nat} {p : Prop} {W : World} (h : p ∧ base ≤ k ∧ k < W.heap.size ∧ ∃ q, q ∈ es ∧ ∃ cells, W.heap[k]? = some (.cells cells q (0, 0))) {t : Nat} (h2 : ∃ cells2, W.heap[k]? = some (.cells cells2 t (0, 0))) (hd : ∀ q, q ∈ es → q ≠ t) : False := by
  obtain ⟨c2, h2⟩ := h2
  exact mkk_tyb h h2 hd
theorem mkk_keptT {α : Type} {d : Kd α} {e base : Nat} {ok S : Nat → Prop} {W W2 : World} {v : Value} {xs : List α} (hE : d.E = []) (h : d.R e W base ok v xs) (hk : Kept W W2 S) (hne : ∀ k, S k → some k = v.ownBlock → False) : d.R e W2 base ok v xs :=
  Kd.R_mono (Kd.R_kept (Kd.R_tight hE h) hk (fun k e_ hs => hne k hs e_)) (fun k hk => h.1 k hk.symm)

end Go.Proofs.YtcoapbnbakmkoaaGreatDoor.PFnExactVarsOf
