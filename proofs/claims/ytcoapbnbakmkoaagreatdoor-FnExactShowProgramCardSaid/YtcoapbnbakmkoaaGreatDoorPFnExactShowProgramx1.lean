/- Written by a program of this session (a turned copy of the kit's print): a contract for each Go function. No condition beside those in each statement. -/
import Derived.Test.YtcoapbnbakmkoaaGreatDoorPFnExactShowProgramx0
namespace Go.Proofs.YtcoapbnbakmkoaaGreatDoor.PFnExactShowProgram
open Go.RowKit Go.Proofs.YtcoapbnbakmkoaaGreatDoor.Given Go.Proofs.YtcoapbnbakmkoaaGreatDoorW.PrintWords Go.Proofs.YtcoapbnbakmkoaaGreatDoorW.PrintLast Go.Proofs.YtcoapbnbakmkoaaGreatDoorW.PrintMore
attribute [local go_sem] max2_int min2_int max_two min_two max_three min_three max_four min_four   -- for this text's walks alone
set_option linter.unusedVariables false
set_option linter.unusedSimpArgs false

/-! ### laws_szIntS: function 90 -/
def laws_szIntS.f (l0 : List Int) (a1 : Int) : Option (Int) := if (wrap64 (a1 - (l0.length : Int))) < 0 then (some (-1)) else (some (wrap64 (a1 - (l0.length : Int))))
set_option maxHeartbeats 8000000 in
set_option maxRecDepth 100000 in
theorem laws_szIntS.calls (A0 : Option Addr) (c0 : Nat) (l0 : List Int) (a1 : Int) (r : Int) (w : World) (hr0 : Kd.C (Kd.int .i64) w A0 l0.length l0) (hc0 : l0.length ≤ c0) (h : laws_szIntS.f l0 a1 = some r) :
  Calls Tryz.prog 90 #[.slice A0 l0.length c0, .int .i64 a1] w fun e w' => e = .returned (.int .i64 r) ∧ Drawn0 w w' := by
 have HR0 := As.mk hr0; have HC0 := As.mk hc0; clear hr0 hc0; have H : (if (wrap64 (a1 - (l0.length : Int))) < 0 then (some (-1)) else (some (wrap64 (a1 - (l0.length : Int))))) = some r := h; clear h
 by_cases c3 : (wrap64 (a1 - (l0.length : Int))) < 0
 ·
  rw [if_pos c3] at H; have c3b0 := decide_eq_true c3; clear c3; obtain rfl := sj H; go_enter Tryz.func90, Tryz.ntmps90
  go_wp2
  go_ret
  exact dw
 rw [if_neg c3] at H; have c3b0 := decide_eq_false c3; clear c3; obtain rfl := sj H; go_enter Tryz.func90, Tryz.ntmps90
 go_wp2
 go_ret
 exact dw

/-! ### laws_szNode: function 64 -/
def laws_szNode.f (a0_0 : Int) (a0_1 : Int) (a0_2 : ByteArray) (l0_3 : List Int) (a1 : Int) : Option (Int) := if (wrap64 (a1 - (a0_2.size : Int))) < 0 then (some (-1)) else ((laws_szIntS.f l0_3 (wrap64 (a1 - (a0_2.size : Int)))).bind fun t102 => (if t102 < 0 then (some (-1)) else (some t102)))
set_option maxHeartbeats 8000000 in
set_option maxRecDepth 100000 in
theorem laws_szNode.calls (a0_0 : Int) (a0_1 : Int) (a0_2 : ByteArray) (A0_3 : Option Addr) (c0_3 : Nat) (l0_3 : List Int) (a1 : Int) (r : Int) (w : World) (hr0_3 : Kd.C (Kd.int .i64) w A0_3 l0_3.length l0_3) (hc0_3 : l0_3.length ≤ c0_3) (h : laws_szNode.f a0_0 a0_1 a0_2 l0_3 a1 = some r) :
  Calls Tryz.prog 64 #[.agg #[.int .i64 a0_0, .int .i64 a0_1, .string a0_2, .slice A0_3 l0_3.length c0_3], .int .i64 a1] w fun e w' => e = .returned (.int .i64 r) ∧ Below w.heap.size w w' := by
 have hu80 := Tryz.underlying80; have HR0_3 := As.mk hr0_3; have HC0_3 := As.mk hc0_3; clear hr0_3 hc0_3; have HB := As.mk (Below.refl w.heap.size w); have H : (if (wrap64 (a1 - (a0_2.size : Int))) < 0 then (some (-1)) else ((laws_szIntS.f l0_3 (wrap64 (a1 - (a0_2.size : Int)))).bind fun t102 => (if t102 < 0 then (some (-1)) else (some t102)))) = some r := h; clear h
 by_cases c3 : (wrap64 (a1 - (a0_2.size : Int))) < 0
 ·
  rw [if_pos c3] at H; have c3b0 := decide_eq_true c3; clear c3; obtain rfl := sj H; go_enter Tryz.func64, Tryz.ntmps64
  go_wp2_with (first | ((with_reducible refine gate_dst (N := 2) rfl ?_); refine bxe 2 #[.int .i64 a0_0, .int .i64 a0_1, .string a0_2, .slice A0_3 l0_3.length c0_3] 80 ?_; intro gb101 hg w4 BK101 hb; have GW101 := As.mk (gs w hg); replace HB := bs w hb; clear hb hg; obtain ⟨y5a, y5b, y5c, y5d, v5a, v5b, v5c, v5d⟩ := cl4 BK101.out))
  go_ret
  exact ⟨ez, be w⟩
 rw [if_neg c3] at H; have c3b0 := decide_eq_false c3; clear c3; replace H := bo H; obtain ⟨t102, A6, H⟩ := H
 by_cases c7 : t102 < 0
 ·
  rw [if_pos c7] at H; have c7b0 := decide_eq_true c7; clear c7; obtain rfl := sj H; go_enter Tryz.func64, Tryz.ntmps64
  go_wp2_with (first | ((with_reducible refine gate_dst (N := 2) rfl ?_); refine bxe 2 #[.int .i64 a0_0, .int .i64 a0_1, .string a0_2, .slice A0_3 l0_3.length c0_3] 80 ?_; intro gb101 hg w8 BK101 hb; have GW101 := As.mk (gs w hg); replace HB := bs w hb; clear hb hg; obtain ⟨y9a, y9b, y9c, y9d, v9a, v9b, v9c, v9d⟩ := cl4 BK101.out) | ((with_reducible refine gate_callee (f := 90) rfl ?_); refine goL (some 15) Tryz.func90 #[.slice A0_3 l0_3.length c0_3, .int .i64 (wrap64 (a1 - (a0_2.size : Int)))] ?_; (with_reducible refine (laws_szIntS.calls _ _ l0_3 (wrap64 (a1 - (a0_2.size : Int))) t102 _ (cb HR0_3) HC0_3.out A6.out).mono ?_); rintro e w' ⟨rfl, ⟨nd, rfl⟩⟩; refine ⟨_, rfl, ?_⟩))
  go_ret
  exact ⟨ez, be w⟩
 rw [if_neg c7] at H; have c7b0 := decide_eq_false c7; clear c7; obtain rfl := sj H; go_enter Tryz.func64, Tryz.ntmps64
 go_wp2_with (first | ((with_reducible refine gate_dst (N := 2) rfl ?_); refine bxe 2 #[.int .i64 a0_0, .int .i64 a0_1, .string a0_2, .slice A0_3 l0_3.length c0_3] 80 ?_; intro gb101 hg w10 BK101 hb; have GW101 := As.mk (gs w hg); replace HB := bs w hb; clear hb hg; obtain ⟨y11a, y11b, y11c, y11d, v11a, v11b, v11c, v11d⟩ := cl4 BK101.out) | ((with_reducible refine gate_callee (f := 90) rfl ?_); refine goL (some 15) Tryz.func90 #[.slice A0_3 l0_3.length c0_3, .int .i64 (wrap64 (a1 - (a0_2.size : Int)))] ?_; (with_reducible refine (laws_szIntS.calls _ _ l0_3 (wrap64 (a1 - (a0_2.size : Int))) t102 _ (cb HR0_3) HC0_3.out A6.out).mono ?_); rintro e w' ⟨rfl, ⟨nd, rfl⟩⟩; refine ⟨_, rfl, ?_⟩))
 go_ret
 exact ⟨ez, be w⟩

/-! ### laws_szNodeS: function 31 -/
def laws_szNodeS.l0 : Nat → List (S80) → Int → Int → Option (Int)
 | 0, _, _, _ => none
 | k + 1, x0, x1, x5 => if x5 < (x0.length : Int) then (if 0 ≤ x5 then ((laws_szNode.f ((rd_T80 x0 x5).f0) ((rd_T80 x0 x5).f1) ((rd_T80 x0 x5).f2) ((rd_T80 x0 x5).f3) x1).bind fun t104 => (if t104 < 0 then (some (-1)) else (laws_szNodeS.l0 k x0 t104 (wrap64 (x5 + 1))))) else (none)) else (some x1)
def laws_szNodeS.f (k : Nat) (l0 : List (S80)) (a1 : Int) : Option (Int) := if (wrap64 (a1 - (l0.length : Int))) < 0 then (some (-1)) else (laws_szNodeS.l0 k l0 (wrap64 (a1 - (l0.length : Int))) 0)
theorem laws_szNodeS.mono_l : ∀ k, (∀ y0 y1 y2, LeO (laws_szNodeS.l0 k y0 y1 y2) (laws_szNodeS.l0 (k + 1) y0 y1 y2))
 | 0 => fun _ _ _ r h => by simp [laws_szNodeS.l0] at h
 | k + 1 => by
  have ih0 := laws_szNodeS.mono_l k
  ·
   intro y0 y1 y2
   unfold laws_szNodeS.l0
   with_reducible repeat' first | exact ih0 _ _ _ | exact LeO.refl _ | exact LeO.none _ | refine LeO.ite ?_ ?_ | refine LeO.bind ?_ (fun _ => ?_)
theorem laws_szNodeS.mono : ∀ a0 a1 k, LeO (laws_szNodeS.f k a0 a1) (laws_szNodeS.f (k + 1) a0 a1) := by
 intro a0 a1 k; have ih0 := laws_szNodeS.mono_l k
 unfold laws_szNodeS.f
 with_reducible repeat' first | exact ih0 _ _ _ | exact LeO.refl _ | exact LeO.none _ | refine LeO.ite ?_ ?_ | refine LeO.bind ?_ (fun _ => ?_)
set_option maxHeartbeats 8000000 in
set_option maxRecDepth 100000 in
theorem laws_szNodeS.calls (k : Nat) (A0 : Option Addr) (c0 : Nat) (l0 : List (S80)) (a1 : Int) (r : Int) (w : World) (hr0 : Kd.C k80 w A0 l0.length l0) (hc0 : l0.length ≤ c0) (h : laws_szNodeS.f k l0 a1 = some r) :
  Calls Tryz.prog 31 #[.slice A0 l0.length c0, .int .i64 a1] w fun e w' => e = .returned (.int .i64 r) ∧ Below w.heap.size w w' := by
 have hu80 := Tryz.underlying80; have HR0 := As.mk hr0; have HC0 := As.mk hc0; clear hr0 hc0; have HB := As.mk (Below.refl w.heap.size w); have H : (if (wrap64 (a1 - (l0.length : Int))) < 0 then (some (-1)) else (laws_szNodeS.l0 k l0 (wrap64 (a1 - (l0.length : Int))) 0)) = some r := h; clear h
 by_cases c3 : (wrap64 (a1 - (l0.length : Int))) < 0
 ·
  rw [if_pos c3] at H; have c3b0 := decide_eq_true c3; clear c3; obtain rfl := sj H; go_enter Tryz.func31, Tryz.ntmps31
  go_wp2
  go_ret
  exact ⟨ez, be w⟩
 rw [if_neg c3] at H; have c3b0 := decide_eq_false c3; clear c3; have H' := As.mk H; clear H; go_enter Tryz.func31, Tryz.ntmps31
 go_wp2
 go_loopg [1, 5] k (fun kq v1 v5 w' => ∃ (x1_1 : Int) (x5_1 : Int), v1 = .int .i64 x1_1 ∧ v5 = .int .i64 x5_1 ∧ As (laws_szNodeS.l0 kq l0 x1_1 x5_1 = some r) ∧ As (kq ≤ k) ∧ As (Below w.heap.size w w'))
 case atStart => exact ⟨(wrap64 (a1 - (l0.length : Int))), (0), (by first | rfl | (simp; done) | (simp [*]; done)), (by first | rfl | (simp; done) | (simp [*]; done)), H', ⟨Nat.le_refl _⟩, ⟨be w⟩⟩
 case round =>
  clear H'; (try clear c3); (try clear c3b0); obtain ⟨x1_1, x5_1, rfl, rfl, HA, HK1, HB⟩ := hrel
  cases gk with
  | zero => exact absurd HA.out (by simp [laws_szNodeS.l0])
  | succ k1 =>
   have H := HA.out; clear HA
   simp only [laws_szNodeS.l0] at H
   by_cases c4 : x5_1 < (l0.length : Int)
   rotate_left
   ·
    rw [if_neg c4] at H; have c4b0 := decide_eq_false c4; clear c4; obtain rfl := sj H
    go_wp2
    go_ret
    exact ⟨ez, be w⟩

   rw [if_pos c4] at H; have c4b0 := decide_eq_true c4; clear c4; replace H := ia H; obtain ⟨c5b0, H⟩ := H; replace H := bo H; obtain ⟨t104, A6, H⟩ := H
   by_cases c7 : t104 < 0
   ·
    rw [if_pos c7] at H; have c7b0 := decide_eq_true c7; clear c7; obtain rfl := sj H; obtain ⟨ad103, A103_3, c103_3, e103, p103, q103, x103a, x103b, x103c, x103d, HC103_3, HR103_3⟩ := bt_T80 HB.out HR0.out x5_1 od od; cases e103
    go_wp2_with (first | ((with_reducible refine gate_callee (f := 64) rfl ?_); refine goL (some 23) Tryz.func64 #[.agg #[.int .i64 ((rd_T80 l0 x5_1).f0), .int .i64 ((rd_T80 l0 x5_1).f1), .string ((rd_T80 l0 x5_1).f2), .slice A103_3 ((rd_T80 l0 x5_1).f3).length c103_3], .int .i64 x1_1] ?_; (with_reducible refine (laws_szNode.calls ((rd_T80 l0 x5_1).f0) ((rd_T80 l0 x5_1).f1) ((rd_T80 l0 x5_1).f2) _ _ ((rd_T80 l0 x5_1).f3) x1_1 t104 _ (cb HR103_3) HC103_3.out A6.out).mono ?_); rintro e w8 ⟨rfl, hb⟩; refine ⟨_, rfl, ?_⟩; replace HB := bs w hb; (try clear hb)))
    go_ret
    exact ⟨ez, be w⟩
   rw [if_neg c7] at H; have c7b0 := decide_eq_false c7; clear c7; have H' := As.mk H; clear H; obtain ⟨ad103, A103_3, c103_3, e103, p103, q103, x103a, x103b, x103c, x103d, HC103_3, HR103_3⟩ := bt_T80 HB.out HR0.out x5_1 od od; cases e103
   go_wp2_with (first | ((with_reducible refine gate_callee (f := 64) rfl ?_); refine goL (some 23) Tryz.func64 #[.agg #[.int .i64 ((rd_T80 l0 x5_1).f0), .int .i64 ((rd_T80 l0 x5_1).f1), .string ((rd_T80 l0 x5_1).f2), .slice A103_3 ((rd_T80 l0 x5_1).f3).length c103_3], .int .i64 x1_1] ?_; (with_reducible refine (laws_szNode.calls ((rd_T80 l0 x5_1).f0) ((rd_T80 l0 x5_1).f1) ((rd_T80 l0 x5_1).f2) _ _ ((rd_T80 l0 x5_1).f3) x1_1 t104 _ (cb HR103_3) HC103_3.out A6.out).mono ?_); rintro e w9 ⟨rfl, hb⟩; refine ⟨_, rfl, ?_⟩; replace HB := bs w hb; (try clear hb)))
   go_roundg k1
   case measure => have := HK1.out; omega
   case rel => exact ⟨(t104), (wrap64 (x5_1 + 1)), (by first | rfl | (simp; done) | (simp [*]; done)), (by first | rfl | (simp; done) | (simp [*]; done)), H', ⟨by have := HK1.out; omega⟩, ⟨be w⟩⟩
/-! ### laws_szParam: function 110 -/
def laws_szParam.f (a0_0 : ByteArray) (a0_1 : Int) (a1 : Int) : Option (Int) := if (wrap64 (a1 - (a0_0.size : Int))) < 0 then (some (-1)) else (some (wrap64 (a1 - (a0_0.size : Int))))
set_option maxHeartbeats 8000000 in
set_option maxRecDepth 100000 in
theorem laws_szParam.calls (a0_0 : ByteArray) (a0_1 : Int) (a1 : Int) (r : Int) (w : World) (h : laws_szParam.f a0_0 a0_1 a1 = some r) :
  Calls Tryz.prog 110 #[.agg #[.string a0_0, .int .i64 a0_1], .int .i64 a1] w fun e w' => e = .returned (.int .i64 r) ∧ Below w.heap.size w w' := by
 have hu124 := Tryz.underlying124; have HB := As.mk (Below.refl w.heap.size w); have H : (if (wrap64 (a1 - (a0_0.size : Int))) < 0 then (some (-1)) else (some (wrap64 (a1 - (a0_0.size : Int))))) = some r := h; clear h
 by_cases c3 : (wrap64 (a1 - (a0_0.size : Int))) < 0
 ·
  rw [if_pos c3] at H; have c3b0 := decide_eq_true c3; clear c3; obtain rfl := sj H; go_enter Tryz.func110, Tryz.ntmps110
  go_wp2_with (first | ((with_reducible refine gate_dst (N := 2) rfl ?_); refine bxe 2 #[.string a0_0, .int .i64 a0_1] 124 ?_; intro gb105 hg w4 BK105 hb; have GW105 := As.mk (gs w hg); replace HB := bs w hb; clear hb hg; obtain ⟨y5a, y5b, v5a, v5b⟩ := cl2 BK105.out))
  go_ret
  exact ⟨ez, be w⟩
 rw [if_neg c3] at H; have c3b0 := decide_eq_false c3; clear c3; obtain rfl := sj H; go_enter Tryz.func110, Tryz.ntmps110
 go_wp2_with (first | ((with_reducible refine gate_dst (N := 2) rfl ?_); refine bxe 2 #[.string a0_0, .int .i64 a0_1] 124 ?_; intro gb105 hg w6 BK105 hb; have GW105 := As.mk (gs w hg); replace HB := bs w hb; clear hb hg; obtain ⟨y7a, y7b, v7a, v7b⟩ := cl2 BK105.out))
 go_ret
 exact ⟨ez, be w⟩

/-! ### laws_szParamS: function 91 -/
def laws_szParamS.l0 : Nat → List (S124) → Int → Int → Option (Int)
 | 0, _, _, _ => none
 | k + 1, x0, x1, x5 => if x5 < (x0.length : Int) then (if 0 ≤ x5 then ((laws_szParam.f ((rd_T124 x0 x5).f0) ((rd_T124 x0 x5).f1) x1).bind fun t107 => (if t107 < 0 then (some (-1)) else (laws_szParamS.l0 k x0 t107 (wrap64 (x5 + 1))))) else (none)) else (some x1)
def laws_szParamS.f (k : Nat) (l0 : List (S124)) (a1 : Int) : Option (Int) := if (wrap64 (a1 - (l0.length : Int))) < 0 then (some (-1)) else (laws_szParamS.l0 k l0 (wrap64 (a1 - (l0.length : Int))) 0)
theorem laws_szParamS.mono_l : ∀ k, (∀ y0 y1 y2, LeO (laws_szParamS.l0 k y0 y1 y2) (laws_szParamS.l0 (k + 1) y0 y1 y2))
 | 0 => fun _ _ _ r h => by simp [laws_szParamS.l0] at h
 | k + 1 => by
  have ih0 := laws_szParamS.mono_l k
  ·
   intro y0 y1 y2
   unfold laws_szParamS.l0
   with_reducible repeat' first | exact ih0 _ _ _ | exact LeO.refl _ | exact LeO.none _ | refine LeO.ite ?_ ?_ | refine LeO.bind ?_ (fun _ => ?_)
theorem laws_szParamS.mono : ∀ a0 a1 k, LeO (laws_szParamS.f k a0 a1) (laws_szParamS.f (k + 1) a0 a1) := by
 intro a0 a1 k; have ih0 := laws_szParamS.mono_l k
 unfold laws_szParamS.f
 with_reducible repeat' first | exact ih0 _ _ _ | exact LeO.refl _ | exact LeO.none _ | refine LeO.ite ?_ ?_ | refine LeO.bind ?_ (fun _ => ?_)
set_option maxHeartbeats 8000000 in
set_option maxRecDepth 100000 in
theorem laws_szParamS.calls (k : Nat) (A0 : Option Addr) (c0 : Nat) (l0 : List (S124)) (a1 : Int) (r : Int) (w : World) (hr0 : Kd.C k124 w A0 l0.length l0) (hc0 : l0.length ≤ c0) (h : laws_szParamS.f k l0 a1 = some r) :
  Calls Tryz.prog 91 #[.slice A0 l0.length c0, .int .i64 a1] w fun e w' => e = .returned (.int .i64 r) ∧ Below w.heap.size w w' := by
 have hu124 := Tryz.underlying124; have HR0 := As.mk hr0; have HC0 := As.mk hc0; clear hr0 hc0; have HB := As.mk (Below.refl w.heap.size w); have H : (if (wrap64 (a1 - (l0.length : Int))) < 0 then (some (-1)) else (laws_szParamS.l0 k l0 (wrap64 (a1 - (l0.length : Int))) 0)) = some r := h; clear h
 by_cases c3 : (wrap64 (a1 - (l0.length : Int))) < 0
 ·
  rw [if_pos c3] at H; have c3b0 := decide_eq_true c3; clear c3; obtain rfl := sj H; go_enter Tryz.func91, Tryz.ntmps91
  go_wp2
  go_ret
  exact ⟨ez, be w⟩
 rw [if_neg c3] at H; have c3b0 := decide_eq_false c3; clear c3; have H' := As.mk H; clear H; go_enter Tryz.func91, Tryz.ntmps91
 go_wp2
 go_loopg [1, 5] k (fun kq v1 v5 w' => ∃ (x1_1 : Int) (x5_1 : Int), v1 = .int .i64 x1_1 ∧ v5 = .int .i64 x5_1 ∧ As (laws_szParamS.l0 kq l0 x1_1 x5_1 = some r) ∧ As (kq ≤ k) ∧ As (Below w.heap.size w w'))
 case atStart => exact ⟨(wrap64 (a1 - (l0.length : Int))), (0), (by first | rfl | (simp; done) | (simp [*]; done)), (by first | rfl | (simp; done) | (simp [*]; done)), H', ⟨Nat.le_refl _⟩, ⟨be w⟩⟩
 case round =>
  clear H'; (try clear c3); (try clear c3b0); obtain ⟨x1_1, x5_1, rfl, rfl, HA, HK1, HB⟩ := hrel
  cases gk with
  | zero => exact absurd HA.out (by simp [laws_szParamS.l0])
  | succ k1 =>
   have H := HA.out; clear HA
   simp only [laws_szParamS.l0] at H
   by_cases c4 : x5_1 < (l0.length : Int)
   rotate_left
   ·
    rw [if_neg c4] at H; have c4b0 := decide_eq_false c4; clear c4; obtain rfl := sj H
    go_wp2
    go_ret
    exact ⟨ez, be w⟩

   rw [if_pos c4] at H; have c4b0 := decide_eq_true c4; clear c4; replace H := ia H; obtain ⟨c5b0, H⟩ := H; replace H := bo H; obtain ⟨t107, A6, H⟩ := H
   by_cases c7 : t107 < 0
   ·
    rw [if_pos c7] at H; have c7b0 := decide_eq_true c7; clear c7; obtain rfl := sj H; obtain ⟨ad106, e106, p106, q106, x106a, x106b⟩ := bt_T124 HB.out HR0.out x5_1 od od; cases e106
    go_wp2_with (first | ((with_reducible refine gate_callee (f := 110) rfl ?_); refine goL (some 23) Tryz.func110 #[.agg #[.string ((rd_T124 l0 x5_1).f0), .int .i64 ((rd_T124 l0 x5_1).f1)], .int .i64 x1_1] ?_; (with_reducible refine (laws_szParam.calls ((rd_T124 l0 x5_1).f0) ((rd_T124 l0 x5_1).f1) x1_1 t107 _ A6.out).mono ?_); rintro e w8 ⟨rfl, hb⟩; refine ⟨_, rfl, ?_⟩; replace HB := bs w hb; (try clear hb)))
    go_ret
    exact ⟨ez, be w⟩
   rw [if_neg c7] at H; have c7b0 := decide_eq_false c7; clear c7; have H' := As.mk H; clear H; obtain ⟨ad106, e106, p106, q106, x106a, x106b⟩ := bt_T124 HB.out HR0.out x5_1 od od; cases e106
   go_wp2_with (first | ((with_reducible refine gate_callee (f := 110) rfl ?_); refine goL (some 23) Tryz.func110 #[.agg #[.string ((rd_T124 l0 x5_1).f0), .int .i64 ((rd_T124 l0 x5_1).f1)], .int .i64 x1_1] ?_; (with_reducible refine (laws_szParam.calls ((rd_T124 l0 x5_1).f0) ((rd_T124 l0 x5_1).f1) x1_1 t107 _ A6.out).mono ?_); rintro e w9 ⟨rfl, hb⟩; refine ⟨_, rfl, ?_⟩; replace HB := bs w hb; (try clear hb)))
   go_roundg k1
   case measure => have := HK1.out; omega
   case rel => exact ⟨(t107), (wrap64 (x5_1 + 1)), (by first | rfl | (simp; done) | (simp [*]; done)), (by first | rfl | (simp; done) | (simp [*]; done)), H', ⟨by have := HK1.out; omega⟩, ⟨be w⟩⟩
/-! ### laws_szFn: function 65 -/
def laws_szFn.f (k : Nat) (a0_0 : ByteArray) (l0_1 : List (S124)) (a0_2 : Int) (a0_3 : Int) (a0_4 : Int) (a1 : Int) : Option (Int) := if (wrap64 (a1 - (a0_0.size : Int))) < 0 then (some (-1)) else ((laws_szParamS.f k l0_1 (wrap64 (a1 - (a0_0.size : Int)))).bind fun t109 => (if t109 < 0 then (some (-1)) else (some t109)))
theorem laws_szFn.mono : ∀ a0 a1 a2 a3 a4 a5 k, LeO (laws_szFn.f k a0 a1 a2 a3 a4 a5) (laws_szFn.f (k + 1) a0 a1 a2 a3 a4 a5) := by
 intro a0 a1 a2 a3 a4 a5 k
 unfold laws_szFn.f
 with_reducible repeat' first | exact laws_szParamS.mono _ _ _ | exact LeO.refl _ | exact LeO.none _ | refine LeO.ite ?_ ?_ | refine LeO.bind ?_ (fun _ => ?_)
set_option maxHeartbeats 8000000 in
set_option maxRecDepth 100000 in
theorem laws_szFn.calls (k : Nat) (a0_0 : ByteArray) (A0_1 : Option Addr) (c0_1 : Nat) (l0_1 : List (S124)) (a0_2 : Int) (a0_3 : Int) (a0_4 : Int) (a1 : Int) (r : Int) (w : World) (hr0_1 : Kd.C k124 w A0_1 l0_1.length l0_1) (hc0_1 : l0_1.length ≤ c0_1) (h : laws_szFn.f k a0_0 l0_1 a0_2 a0_3 a0_4 a1 = some r) :
  Calls Tryz.prog 65 #[.agg #[.string a0_0, .slice A0_1 l0_1.length c0_1, .int .i64 a0_2, .int .i64 a0_3, .int .i64 a0_4], .int .i64 a1] w fun e w' => e = .returned (.int .i64 r) ∧ Below w.heap.size w w' := by
 have hu84 := Tryz.underlying84; have HR0_1 := As.mk hr0_1; have HC0_1 := As.mk hc0_1; clear hr0_1 hc0_1; have HB := As.mk (Below.refl w.heap.size w); have H : (if (wrap64 (a1 - (a0_0.size : Int))) < 0 then (some (-1)) else ((laws_szParamS.f k l0_1 (wrap64 (a1 - (a0_0.size : Int)))).bind fun t109 => (if t109 < 0 then (some (-1)) else (some t109)))) = some r := h; clear h
 by_cases c3 : (wrap64 (a1 - (a0_0.size : Int))) < 0
 ·
  rw [if_pos c3] at H; have c3b0 := decide_eq_true c3; clear c3; obtain rfl := sj H; go_enter Tryz.func65, Tryz.ntmps65
  go_wp2_with (first | ((with_reducible refine gate_dst (N := 2) rfl ?_); refine bxe 2 #[.string a0_0, .slice A0_1 l0_1.length c0_1, .int .i64 a0_2, .int .i64 a0_3, .int .i64 a0_4] 84 ?_; intro gb108 hg w4 BK108 hb; have GW108 := As.mk (gs w hg); replace HB := bs w hb; clear hb hg; obtain ⟨y5a, y5b, y5c, y5d, y5e, v5a, v5b, v5c, v5d, v5e⟩ := cl5 BK108.out))
  go_ret
  exact ⟨ez, be w⟩
 rw [if_neg c3] at H; have c3b0 := decide_eq_false c3; clear c3; replace H := bo H; obtain ⟨t109, A6, H⟩ := H
 by_cases c7 : t109 < 0
 ·
  rw [if_pos c7] at H; have c7b0 := decide_eq_true c7; clear c7; obtain rfl := sj H; go_enter Tryz.func65, Tryz.ntmps65
  go_wp2_with (first | ((with_reducible refine gate_dst (N := 2) rfl ?_); refine bxe 2 #[.string a0_0, .slice A0_1 l0_1.length c0_1, .int .i64 a0_2, .int .i64 a0_3, .int .i64 a0_4] 84 ?_; intro gb108 hg w8 BK108 hb; have GW108 := As.mk (gs w hg); replace HB := bs w hb; clear hb hg; obtain ⟨y9a, y9b, y9c, y9d, y9e, v9a, v9b, v9c, v9d, v9e⟩ := cl5 BK108.out) | ((with_reducible refine gate_callee (f := 91) rfl ?_); refine goL (some 15) Tryz.func91 #[.slice A0_1 l0_1.length c0_1, .int .i64 (wrap64 (a1 - (a0_0.size : Int)))] ?_; (with_reducible refine (laws_szParamS.calls k _ _ l0_1 (wrap64 (a1 - (a0_0.size : Int))) t109 _ (cb HR0_1) HC0_1.out A6.out).mono ?_); rintro e w10 ⟨rfl, hb⟩; refine ⟨_, rfl, ?_⟩; replace HB := bs w hb; (try clear hb)))
  go_ret
  exact ⟨ez, be w⟩
 rw [if_neg c7] at H; have c7b0 := decide_eq_false c7; clear c7; obtain rfl := sj H; go_enter Tryz.func65, Tryz.ntmps65
 go_wp2_with (first | ((with_reducible refine gate_dst (N := 2) rfl ?_); refine bxe 2 #[.string a0_0, .slice A0_1 l0_1.length c0_1, .int .i64 a0_2, .int .i64 a0_3, .int .i64 a0_4] 84 ?_; intro gb108 hg w11 BK108 hb; have GW108 := As.mk (gs w hg); replace HB := bs w hb; clear hb hg; obtain ⟨y12a, y12b, y12c, y12d, y12e, v12a, v12b, v12c, v12d, v12e⟩ := cl5 BK108.out) | ((with_reducible refine gate_callee (f := 91) rfl ?_); refine goL (some 15) Tryz.func91 #[.slice A0_1 l0_1.length c0_1, .int .i64 (wrap64 (a1 - (a0_0.size : Int)))] ?_; (with_reducible refine (laws_szParamS.calls k _ _ l0_1 (wrap64 (a1 - (a0_0.size : Int))) t109 _ (cb HR0_1) HC0_1.out A6.out).mono ?_); rintro e w13 ⟨rfl, hb⟩; refine ⟨_, rfl, ?_⟩; replace HB := bs w hb; (try clear hb)))
 go_ret
 exact ⟨ez, be w⟩

/-! ### laws_szFnS: function 32 -/
def laws_szFnS.l0 : Nat → List (S84) → Int → Int → Option (Int)
 | 0, _, _, _ => none
 | k + 1, x0, x1, x5 => if x5 < (x0.length : Int) then (if 0 ≤ x5 then ((laws_szFn.f k ((rd_T84 x0 x5).f0) ((rd_T84 x0 x5).f1) ((rd_T84 x0 x5).f2) ((rd_T84 x0 x5).f3) ((rd_T84 x0 x5).f4) x1).bind fun t111 => (if t111 < 0 then (some (-1)) else (laws_szFnS.l0 k x0 t111 (wrap64 (x5 + 1))))) else (none)) else (some x1)
def laws_szFnS.f (k : Nat) (l0 : List (S84)) (a1 : Int) : Option (Int) := if (wrap64 (a1 - (l0.length : Int))) < 0 then (some (-1)) else (laws_szFnS.l0 k l0 (wrap64 (a1 - (l0.length : Int))) 0)
theorem laws_szFnS.mono_l : ∀ k, (∀ y0 y1 y2, LeO (laws_szFnS.l0 k y0 y1 y2) (laws_szFnS.l0 (k + 1) y0 y1 y2))
 | 0 => fun _ _ _ r h => by simp [laws_szFnS.l0] at h
 | k + 1 => by
  have ih0 := laws_szFnS.mono_l k
  ·
   intro y0 y1 y2
   unfold laws_szFnS.l0
   with_reducible repeat' first | exact ih0 _ _ _ | exact laws_szFn.mono _ _ _ _ _ _ _ | exact LeO.refl _ | exact LeO.none _ | refine LeO.ite ?_ ?_ | refine LeO.bind ?_ (fun _ => ?_)
theorem laws_szFnS.mono : ∀ a0 a1 k, LeO (laws_szFnS.f k a0 a1) (laws_szFnS.f (k + 1) a0 a1) := by
 intro a0 a1 k; have ih0 := laws_szFnS.mono_l k
 unfold laws_szFnS.f
 with_reducible repeat' first | exact ih0 _ _ _ | exact laws_szFn.mono _ _ _ _ _ _ _ | exact LeO.refl _ | exact LeO.none _ | refine LeO.ite ?_ ?_ | refine LeO.bind ?_ (fun _ => ?_)
set_option maxHeartbeats 8000000 in
set_option maxRecDepth 100000 in
theorem laws_szFnS.calls (k : Nat) (A0 : Option Addr) (c0 : Nat) (l0 : List (S84)) (a1 : Int) (r : Int) (w : World) (hr0 : Kd.C k84 w A0 l0.length l0) (hc0 : l0.length ≤ c0) (h : laws_szFnS.f k l0 a1 = some r) :
  Calls Tryz.prog 32 #[.slice A0 l0.length c0, .int .i64 a1] w fun e w' => e = .returned (.int .i64 r) ∧ Below w.heap.size w w' := by
 have hu84 := Tryz.underlying84; have HR0 := As.mk hr0; have HC0 := As.mk hc0; clear hr0 hc0; have HB := As.mk (Below.refl w.heap.size w); have H : (if (wrap64 (a1 - (l0.length : Int))) < 0 then (some (-1)) else (laws_szFnS.l0 k l0 (wrap64 (a1 - (l0.length : Int))) 0)) = some r := h; clear h
 by_cases c3 : (wrap64 (a1 - (l0.length : Int))) < 0
 ·
  rw [if_pos c3] at H; have c3b0 := decide_eq_true c3; clear c3; obtain rfl := sj H; go_enter Tryz.func32, Tryz.ntmps32
  go_wp2
  go_ret
  exact ⟨ez, be w⟩
 rw [if_neg c3] at H; have c3b0 := decide_eq_false c3; clear c3; have H' := As.mk H; clear H; go_enter Tryz.func32, Tryz.ntmps32
 go_wp2
 go_loopg [1, 5] k (fun kq v1 v5 w' => ∃ (x1_1 : Int) (x5_1 : Int), v1 = .int .i64 x1_1 ∧ v5 = .int .i64 x5_1 ∧ As (laws_szFnS.l0 kq l0 x1_1 x5_1 = some r) ∧ As (kq ≤ k) ∧ As (Below w.heap.size w w'))
 case atStart => exact ⟨(wrap64 (a1 - (l0.length : Int))), (0), (by first | rfl | (simp; done) | (simp [*]; done)), (by first | rfl | (simp; done) | (simp [*]; done)), H', ⟨Nat.le_refl _⟩, ⟨be w⟩⟩
 case round =>
  clear H'; (try clear c3); (try clear c3b0); obtain ⟨x1_1, x5_1, rfl, rfl, HA, HK1, HB⟩ := hrel
  cases gk with
  | zero => exact absurd HA.out (by simp [laws_szFnS.l0])
  | succ k1 =>
   have H := HA.out; clear HA
   simp only [laws_szFnS.l0] at H
   by_cases c4 : x5_1 < (l0.length : Int)
   rotate_left
   ·
    rw [if_neg c4] at H; have c4b0 := decide_eq_false c4; clear c4; obtain rfl := sj H
    go_wp2
    go_ret
    exact ⟨ez, be w⟩

   rw [if_pos c4] at H; have c4b0 := decide_eq_true c4; clear c4; replace H := ia H; obtain ⟨c5b0, H⟩ := H; replace H := bo H; obtain ⟨t111, A6, H⟩ := H
   by_cases c7 : t111 < 0
   ·
    rw [if_pos c7] at H; have c7b0 := decide_eq_true c7; clear c7; obtain rfl := sj H; obtain ⟨ad110, A110_1, c110_1, e110, p110, q110, x110a, x110b, x110c, x110d, x110e, HC110_1, HR110_1⟩ := bt_T84 HB.out HR0.out x5_1 od od; cases e110
    go_wp2_with (first | ((with_reducible refine gate_callee (f := 65) rfl ?_); refine goL (some 23) Tryz.func65 #[.agg #[.string ((rd_T84 l0 x5_1).f0), .slice A110_1 ((rd_T84 l0 x5_1).f1).length c110_1, .int .i64 ((rd_T84 l0 x5_1).f2), .int .i64 ((rd_T84 l0 x5_1).f3), .int .i64 ((rd_T84 l0 x5_1).f4)], .int .i64 x1_1] ?_; (with_reducible refine (laws_szFn.calls k1 ((rd_T84 l0 x5_1).f0) _ _ ((rd_T84 l0 x5_1).f1) ((rd_T84 l0 x5_1).f2) ((rd_T84 l0 x5_1).f3) ((rd_T84 l0 x5_1).f4) x1_1 t111 _ (cb HR110_1) HC110_1.out A6.out).mono ?_); rintro e w8 ⟨rfl, hb⟩; refine ⟨_, rfl, ?_⟩; replace HB := bs w hb; (try clear hb)))
    go_ret
    exact ⟨ez, be w⟩
   rw [if_neg c7] at H; have c7b0 := decide_eq_false c7; clear c7; have H' := As.mk H; clear H; obtain ⟨ad110, A110_1, c110_1, e110, p110, q110, x110a, x110b, x110c, x110d, x110e, HC110_1, HR110_1⟩ := bt_T84 HB.out HR0.out x5_1 od od; cases e110
   go_wp2_with (first | ((with_reducible refine gate_callee (f := 65) rfl ?_); refine goL (some 23) Tryz.func65 #[.agg #[.string ((rd_T84 l0 x5_1).f0), .slice A110_1 ((rd_T84 l0 x5_1).f1).length c110_1, .int .i64 ((rd_T84 l0 x5_1).f2), .int .i64 ((rd_T84 l0 x5_1).f3), .int .i64 ((rd_T84 l0 x5_1).f4)], .int .i64 x1_1] ?_; (with_reducible refine (laws_szFn.calls k1 ((rd_T84 l0 x5_1).f0) _ _ ((rd_T84 l0 x5_1).f1) ((rd_T84 l0 x5_1).f2) ((rd_T84 l0 x5_1).f3) ((rd_T84 l0 x5_1).f4) x1_1 t111 _ (cb HR110_1) HC110_1.out A6.out).mono ?_); rintro e w9 ⟨rfl, hb⟩; refine ⟨_, rfl, ?_⟩; replace HB := bs w hb; (try clear hb)))
   go_roundg k1
   case measure => have := HK1.out; omega
   case rel => exact ⟨(t111), (wrap64 (x5_1 + 1)), (by first | rfl | (simp; done) | (simp [*]; done)), (by first | rfl | (simp; done) | (simp [*]; done)), H', ⟨by have := HK1.out; omega⟩, ⟨be w⟩⟩
/-! ### laws_szProgram: function 9 -/
def laws_szProgram.f (k : Nat) (l0_0 : List (S80)) (l0_1 : List (S84)) (a1 : Int) : Option (Int) := (laws_szNodeS.f k l0_0 a1).bind fun t113 => (if t113 < 0 then (some (-1)) else ((laws_szFnS.f k l0_1 t113).bind fun t114 => (if t114 < 0 then (some (-1)) else (some t114))))
theorem laws_szProgram.mono : ∀ a0 a1 a2 k, LeO (laws_szProgram.f k a0 a1 a2) (laws_szProgram.f (k + 1) a0 a1 a2) := by
 intro a0 a1 a2 k
 unfold laws_szProgram.f
 with_reducible repeat' first | exact laws_szFnS.mono _ _ _ | exact laws_szNodeS.mono _ _ _ | exact LeO.refl _ | exact LeO.none _ | refine LeO.ite ?_ ?_ | refine LeO.bind ?_ (fun _ => ?_)
set_option maxHeartbeats 8000000 in
set_option maxRecDepth 100000 in
theorem laws_szProgram.calls (k : Nat) (A0_0 : Option Addr) (c0_0 : Nat) (l0_0 : List (S80)) (A0_1 : Option Addr) (c0_1 : Nat) (l0_1 : List (S84)) (a1 : Int) (r : Int) (w : World) (hr0_0 : Kd.C k80 w A0_0 l0_0.length l0_0) (hc0_0 : l0_0.length ≤ c0_0) (hr0_1 : Kd.C k84 w A0_1 l0_1.length l0_1) (hc0_1 : l0_1.length ≤ c0_1) (h : laws_szProgram.f k l0_0 l0_1 a1 = some r) :
  Calls Tryz.prog 9 #[.agg #[.slice A0_0 l0_0.length c0_0, .slice A0_1 l0_1.length c0_1], .int .i64 a1] w fun e w' => e = .returned (.int .i64 r) ∧ Below w.heap.size w w' := by
 have hu25 := Tryz.underlying25; have HR0_0 := As.mk hr0_0; have HC0_0 := As.mk hc0_0; clear hr0_0 hc0_0; have HR0_1 := As.mk hr0_1; have HC0_1 := As.mk hc0_1; clear hr0_1 hc0_1; have HB := As.mk (Below.refl w.heap.size w); have H : ((laws_szNodeS.f k l0_0 a1).bind fun t113 => (if t113 < 0 then (some (-1)) else ((laws_szFnS.f k l0_1 t113).bind fun t114 => (if t114 < 0 then (some (-1)) else (some t114))))) = some r := h; clear h; replace H := bo H; obtain ⟨t113, A3, H⟩ := H
 by_cases c4 : t113 < 0
 ·
  rw [if_pos c4] at H; have c4b0 := decide_eq_true c4; clear c4; obtain rfl := sj H; go_enter Tryz.func9, Tryz.ntmps9
  go_wp2_with (first | ((with_reducible refine gate_dst (N := 2) rfl ?_); refine bxe 2 #[.slice A0_0 l0_0.length c0_0, .slice A0_1 l0_1.length c0_1] 25 ?_; intro gb112 hg w5 BK112 hb; have GW112 := As.mk (gs w hg); replace HB := bs w hb; clear hb hg; obtain ⟨y6a, y6b, v6a, v6b⟩ := cl2 BK112.out) | ((with_reducible refine gate_callee (f := 31) rfl ?_); refine goL (some 8) Tryz.func31 #[.slice A0_0 l0_0.length c0_0, .int .i64 a1] ?_; (with_reducible refine (laws_szNodeS.calls k _ _ l0_0 a1 t113 _ (cb HR0_0) HC0_0.out A3.out).mono ?_); rintro e w7 ⟨rfl, hb⟩; refine ⟨_, rfl, ?_⟩; replace HB := bs w hb; (try clear hb)))
  go_ret
  exact ⟨ez, be w⟩
 rw [if_neg c4] at H; have c4b0 := decide_eq_false c4; clear c4; replace H := bo H; obtain ⟨t114, A8, H⟩ := H
 by_cases c9 : t114 < 0
 ·
  rw [if_pos c9] at H; have c9b0 := decide_eq_true c9; clear c9; obtain rfl := sj H; go_enter Tryz.func9, Tryz.ntmps9
  go_wp2_with (first | ((with_reducible refine gate_dst (N := 2) rfl ?_); refine bxe 2 #[.slice A0_0 l0_0.length c0_0, .slice A0_1 l0_1.length c0_1] 25 ?_; intro gb112 hg w10 BK112 hb; have GW112 := As.mk (gs w hg); replace HB := bs w hb; clear hb hg; obtain ⟨y11a, y11b, v11a, v11b⟩ := cl2 BK112.out) | ((with_reducible refine gate_callee (f := 31) rfl ?_); refine goL (some 8) Tryz.func31 #[.slice A0_0 l0_0.length c0_0, .int .i64 a1] ?_; (with_reducible refine (laws_szNodeS.calls k _ _ l0_0 a1 t113 _ (cb HR0_0) HC0_0.out A3.out).mono ?_); rintro e w12 ⟨rfl, hb⟩; refine ⟨_, rfl, ?_⟩; replace BK112 := bb BK112 hb; replace HB := bs w hb; (try clear hb); obtain ⟨y13a, y13b, v13a, v13b⟩ := cl2 BK112.out) | ((with_reducible refine gate_callee (f := 32) rfl ?_); refine goL (some 14) Tryz.func32 #[.slice A0_1 l0_1.length c0_1, .int .i64 t113] ?_; (with_reducible refine (laws_szFnS.calls k _ _ l0_1 t113 t114 _ (cb HR0_1) HC0_1.out A8.out).mono ?_); rintro e w14 ⟨rfl, hb⟩; refine ⟨_, rfl, ?_⟩; replace HB := bs w hb; (try clear hb)))
  go_ret
  exact ⟨ez, be w⟩
 rw [if_neg c9] at H; have c9b0 := decide_eq_false c9; clear c9; obtain rfl := sj H; go_enter Tryz.func9, Tryz.ntmps9
 go_wp2_with (first | ((with_reducible refine gate_dst (N := 2) rfl ?_); refine bxe 2 #[.slice A0_0 l0_0.length c0_0, .slice A0_1 l0_1.length c0_1] 25 ?_; intro gb112 hg w15 BK112 hb; have GW112 := As.mk (gs w hg); replace HB := bs w hb; clear hb hg; obtain ⟨y16a, y16b, v16a, v16b⟩ := cl2 BK112.out) | ((with_reducible refine gate_callee (f := 31) rfl ?_); refine goL (some 8) Tryz.func31 #[.slice A0_0 l0_0.length c0_0, .int .i64 a1] ?_; (with_reducible refine (laws_szNodeS.calls k _ _ l0_0 a1 t113 _ (cb HR0_0) HC0_0.out A3.out).mono ?_); rintro e w17 ⟨rfl, hb⟩; refine ⟨_, rfl, ?_⟩; replace BK112 := bb BK112 hb; replace HB := bs w hb; (try clear hb); obtain ⟨y18a, y18b, v18a, v18b⟩ := cl2 BK112.out) | ((with_reducible refine gate_callee (f := 32) rfl ?_); refine goL (some 14) Tryz.func32 #[.slice A0_1 l0_1.length c0_1, .int .i64 t113] ?_; (with_reducible refine (laws_szFnS.calls k _ _ l0_1 t113 t114 _ (cb HR0_1) HC0_1.out A8.out).mono ?_); rintro e w19 ⟨rfl, hb⟩; refine ⟨_, rfl, ?_⟩; replace HB := bs w hb; (try clear hb)))
 go_ret
 exact ⟨ez, be w⟩

/-! ### laws_toIntS: function 92 -/
def laws_toIntS.l0 : Nat → List Int → List Int → Int → Option (List Int)
 | 0, _, _, _ => none
 | k + 1, x0, x3, x4 => if x4 < (x0.length : Int) then (if 0 ≤ x4 then (if x4 < (x3.length : Int) then (laws_toIntS.l0 k x0 (x3.set (x4 : Int).toNat (rd x0 x4)) (wrap64 (x4 + 1))) else (none)) else (none)) else (some x3)
def laws_toIntS.f (k : Nat) (l0 : List Int) : Option (List Int) := if 0 ≤ (l0.length : Int) then (if ((l0.length : Int) : Int).toNat ≤ 35184372088832 then (laws_toIntS.l0 k l0 (List.replicate ((l0.length : Int) : Int).toNat 0) 0) else (none)) else (none)
theorem laws_toIntS.mono_l : ∀ k, (∀ y0 y1 y2, LeO (laws_toIntS.l0 k y0 y1 y2) (laws_toIntS.l0 (k + 1) y0 y1 y2))
 | 0 => fun _ _ _ r h => by simp [laws_toIntS.l0] at h
 | k + 1 => by
  have ih0 := laws_toIntS.mono_l k
  ·
   intro y0 y1 y2
   unfold laws_toIntS.l0
   with_reducible repeat' first | exact ih0 _ _ _ | exact LeO.refl _ | exact LeO.none _ | refine LeO.ite ?_ ?_ | refine LeO.bind ?_ (fun _ => ?_)
theorem laws_toIntS.mono : ∀ a0 k, LeO (laws_toIntS.f k a0) (laws_toIntS.f (k + 1) a0) := by
 intro a0 k; have ih0 := laws_toIntS.mono_l k
 unfold laws_toIntS.f
 with_reducible repeat' first | exact ih0 _ _ _ | exact LeO.refl _ | exact LeO.none _ | refine LeO.ite ?_ ?_ | refine LeO.bind ?_ (fun _ => ?_)
set_option maxHeartbeats 8000000 in
set_option maxRecDepth 100000 in
theorem laws_toIntS.calls (k : Nat) (A0 : Option Addr) (c0 : Nat) (l0 : List Int) (r : List Int) (w : World) (hr0 : Kd.C (Kd.int .i64) w A0 l0.length l0) (hc0 : l0.length ≤ c0) (h : laws_toIntS.f k l0 = some r) :
  Calls Tryz.prog 92 #[.slice A0 l0.length c0] w fun e w' => ∃ v0_ : Value, e = .returned (v0_) ∧ Kd.R (Kd.int .i64) 3 w' w.heap.size (fun _ => True) v0_ r ∧ Below w.heap.size w w' := by
 have HR0 := As.mk hr0; have HC0 := As.mk hc0; clear hr0 hc0; have HB := As.mk (Below.refl w.heap.size w); have H : (if 0 ≤ (l0.length : Int) then (if ((l0.length : Int) : Int).toNat ≤ 35184372088832 then (laws_toIntS.l0 k l0 (List.replicate ((l0.length : Int) : Int).toNat 0) 0) else (none)) else (none)) = some r := h; clear h
 by_cases c2 : 0 ≤ (l0.length : Int)
 rotate_left; · rw [if_neg c2] at H; exact absurd H (by simp)

 rw [if_pos c2] at H; have c2b0 := eq_true c2; have c2b1 := decide_eq_true c2; clear c2; replace H := ie H; obtain ⟨c3b0, c3b1, H⟩ := H
 obtain ⟨y115, hy115⟩ : ∃ y_ : List Int, y_ = (List.replicate ((l0.length : Int) : Int).toNat 0) := ⟨_, rfl⟩
 replace H : (laws_toIntS.l0 k l0 y115 0) = some r := by first | (rw [hy115]; with_reducible exact H) | (have H2_ := (Option.bind_some _ _).symm.trans H; rw [hy115]; with_reducible exact H2_) | (have H2_ := (Option.bind_some _ _).symm.trans H; with_reducible exact H2_) | with_reducible exact H | (rw [hy115]; exact H) | exact H
 have Ny115 := As.mk hy115; clear hy115; have H' := As.mk H; clear H; go_enter Tryz.func92, Tryz.ntmps92
 go_wp2_with (first | ((with_reducible refine gate_dst (N := 7) rfl ?_); refine Kd.R_make (Kd.int .i64) _ 3 rfl (N := 7) rfl 45 _ _ rfl (l0.length : Int) rfl rfl Tryz.underlying45 (.int .i64 0) 8 info3 rfl (by decide) (by omega) 0 (ok := fun _ => True) (okp := fun _ => True) rfl (fun _ hk => hk) trivial (of_decide_eq_true (by first | (with_reducible assumption) | assumption)) (Nat.le_trans (Nat.mul_le_mul_right _ (of_decide_eq_true (by first | (with_reducible assumption) | assumption) : (l0.length : Int).toNat ≤ 35184372088832)) (by omega)) (Below.refl _ _) (Nat.le_refl _) ?_; intro v116 w4 ho5 hb hg_ hnew_; clear hg_ hnew_; (first | rw [← Ny115.out] at ho5 | (simp only [Int.reduceToNat] at ho5; rw [← Ny115.out] at ho5)); have HO117 := As.mk (Kd.R_lower ho5 (below_size (be w))); replace HB := bs w hb; clear hb ho5))
 go_loopg [4] k (fun kq v4 w' => ∃ (x3_1 : List Int) (x4_1 : Int), v4 = .int .i64 x4_1 ∧ As (laws_toIntS.l0 kq l0 x3_1 x4_1 = some r) ∧ As (kq ≤ k) ∧ As (Kd.R (Kd.int .i64) 3 w' w.heap.size (fun _ => True) v116 x3_1) ∧ As (Below w.heap.size w w'))
 case atStart => exact ⟨(y115), (0), (by first | rfl | (simp; done) | (simp [*]; done)), H', ⟨Nat.le_refl _⟩, ⟨by (with_reducible repeat (first | apply Kd.R_alloc | apply Kd.R_drewN | apply Kd.R_drew)); exact HO117.out⟩, ⟨be w⟩⟩
 case round =>
  clear H'; (try clear c2); (try clear c2b0); (try clear c2b1); (try clear c3); (try clear c3b0); (try clear c3b1); obtain ⟨x3_1, x4_1, rfl, HA, HK1, HO_3, HB⟩ := hrel
  cases gk with
  | zero => exact absurd HA.out (by simp [laws_toIntS.l0])
  | succ k1 =>
   have H := HA.out; clear HA
   simp only [laws_toIntS.l0] at H
   by_cases c6 : x4_1 < (l0.length : Int)
   rotate_left
   ·
    rw [if_neg c6] at H; have c6b0 := decide_eq_false c6; clear c6; obtain rfl := sj H
    go_wp2
    go_ret
    exact ⟨_, ez, by (with_reducible repeat (first | apply Kd.R_alloc | apply Kd.R_drewN | apply Kd.R_drew)); exact HO_3.out, be w⟩
   rw [if_pos c6] at H; have c6b0 := decide_eq_true c6; clear c6; replace H := ia H; obtain ⟨c7b0, H⟩ := H; replace H := ia H; obtain ⟨c8b0, H⟩ := H
   obtain ⟨y119, hy119⟩ : ∃ y_ : List Int, y_ = (x3_1.set (x4_1 : Int).toNat (rd l0 x4_1)) := ⟨_, rfl⟩
   replace H : (laws_toIntS.l0 k1 l0 y119 (wrap64 (x4_1 + 1))) = some r := by first | (rw [hy119]; with_reducible exact H) | (have H2_ := (Option.bind_some _ _).symm.trans H; rw [hy119]; with_reducible exact H2_) | (have H2_ := (Option.bind_some _ _).symm.trans H; with_reducible exact H2_) | with_reducible exact H | (rw [hy119]; exact H) | exact H
   have Ny119 := As.mk hy119; clear hy119; have H' := As.mk H; clear H; have p118 : 0 ≤ (x4_1 : Int) := od; have q118 : x4_1 < (l0.length : Int) := od; obtain ⟨ad118, e118, x118a⟩ := Kd.at_int HR0.out x4_1 p118 q118; cases e118; replace x118a := ce HB.out x118a; replace p118 := eq_true p118; replace q118 := eq_true q118; have p9 : 0 ≤ (x4_1 : Int) := od; have q9 : (x4_1 : Int) < ((x3_1.length : Int) : Int) := od; obtain ⟨go9, co9, eo9, gb9, gl9, cl9, HG9⟩ := Kd.R_form HO_3.out (by omega)
   (first | cases eo9 | (injection eo9 with ea_ en_ ec_; (first | subst ea_ | (injection ea_ with ea_; subst ea_)); subst ec_; clear en_))
   have GB9 := As.mk gb9; have GG9 := As.mk HG9; clear gb9 gl9 HG9; obtain ⟨x9a, f9a⟩ := Kd.R_celln 0 HO_3.out (x4_1 : Int) p9 q9; replace p9 := eq_true p9; replace q9 := eq_true q9; have HP10 := Kd.R_putg HO_3.out (x4_1 : Int) (rd l0 x4_1)
   go_wp2_with (first | ((with_reducible refine gate_store (t := 3) (p := 20) rfl ?_); refine store_event (t := 3) (p := 20) (v := ?vo_w11) (w1 := (wr.setCell ⟨go9, (x4_1 : Int).toNat, none⟩ (.int .i64 (rd l0 x4_1)))) ?hg ?ho ?hn ?hr ?_; (case ho => rfl); (case hg => rfl); (case hn => rfl); (case hr => first | (go_simp; done) | (go_simp; rfl)); intro w11 hw; have hg : wr.grownBy w11 (some go9) := (by rw [hw]; exact HP10.2); have hp_ : Kd.R (Kd.int .i64) 3 w11 w.heap.size (fun _ => True) (.slice (some ⟨go9, 0, none⟩) x3_1.length co9) y119 := (by rw [hw, Ny119.out]; exact HP10.1); clear HP10; replace HO_3 := As.mk (hp_); replace HB := As.mk ((by rw [hw]; exact below_set (HB.out) GB9.out : Below w.heap.size w w11)); clear hg hw hp_))
   go_roundg k1
   case measure => have := HK1.out; omega
   case rel => exact ⟨(y119), (wrap64 (x4_1 + 1)), (by first | rfl | (simp; done) | (simp [*]; done)), H', ⟨by have := HK1.out; omega⟩, ⟨by (with_reducible repeat (first | apply Kd.R_alloc | apply Kd.R_drewN | apply Kd.R_drew)); exact HO_3.out⟩, ⟨be w⟩⟩
/-! ### laws_toNode: function 66 -/
def laws_toNode.f (k : Nat) (a0_0 : Int) (a0_1 : Int) (a0_2 : ByteArray) (l0_3 : List Int) : Option (Int × Int × ByteArray × List Int) := (laws_toIntS.f k l0_3).bind fun t123 => (some (a0_0, a0_1, a0_2, t123))
theorem laws_toNode.mono : ∀ a0 a1 a2 a3 k, LeO (laws_toNode.f k a0 a1 a2 a3) (laws_toNode.f (k + 1) a0 a1 a2 a3) := by
 intro a0 a1 a2 a3 k
 unfold laws_toNode.f
 with_reducible repeat' first | exact laws_toIntS.mono _ _ | exact LeO.refl _ | exact LeO.none _ | refine LeO.ite ?_ ?_ | refine LeO.bind ?_ (fun _ => ?_)
set_option maxHeartbeats 8000000 in
set_option maxRecDepth 100000 in
theorem laws_toNode.calls (k : Nat) (a0_0 : Int) (a0_1 : Int) (a0_2 : ByteArray) (A0_3 : Option Addr) (c0_3 : Nat) (l0_3 : List Int) (r1 : Int) (r2 : Int) (r3 : ByteArray) (r4 : List Int) (w : World) (hr0_3 : Kd.C (Kd.int .i64) w A0_3 l0_3.length l0_3) (hc0_3 : l0_3.length ≤ c0_3) (h : laws_toNode.f k a0_0 a0_1 a0_2 l0_3 = some (r1, r2, r3, r4)) :
  Calls Tryz.prog 66 #[.agg #[.int .i64 a0_0, .int .i64 a0_1, .string a0_2, .slice A0_3 l0_3.length c0_3]] w fun e w' => ∃ v3_ : Value, e = .returned (.agg #[.int .i64 r1, .int .i64 r2, .string r3, v3_]) ∧ Kd.R (Kd.int .i64) 3 w' w.heap.size (fun _ => True) v3_ r4 ∧ Below w.heap.size w w' := by
 have hu80 := Tryz.underlying80; have hu62 := Tryz.underlying62; have HR0_3 := As.mk hr0_3; have HC0_3 := As.mk hc0_3; clear hr0_3 hc0_3; have HB := As.mk (Below.refl w.heap.size w); have H : ((laws_toIntS.f k l0_3).bind fun t123 => (some (a0_0, a0_1, a0_2, t123))) = some (r1, r2, r3, r4) := h; clear h; replace H := bo H; obtain ⟨t123, A2, H⟩ := H
 simp only [Option.some.injEq, Prod.mk.injEq] at H
 obtain ⟨rfl, rfl, rfl, rfl⟩ := H; go_enter Tryz.func66, Tryz.ntmps66
 go_wp2_with (first | ((with_reducible refine gate_dst (N := 1) rfl ?_); refine bxe 1 #[.int .i64 a0_0, .int .i64 a0_1, .string a0_2, .slice A0_3 l0_3.length c0_3] 80 ?_; intro gb120 hg w3 BK120 hb; have GW120 := As.mk (gs w hg); replace HB := bs w hb; clear hb hg) | ((with_reducible refine gate_dst (N := 2) rfl ?_); refine bxe 2 #[.int .i64 0, .int .i64 0, .string (⟨#[]⟩ : ByteArray), .slice none 0 0] 62 ?_; intro gb121 hg w4 BK121 hb; have GW121 := As.mk (gs w hg); replace HB := bs w hb; have NB120_121 := As.mk (nl hg (bx BK120.out)); have NB121_120 := As.mk (ng hg (bx BK120.out)); replace BK120 := bb BK120 hb; clear hb hg) | ((with_reducible refine gate_dst (N := 3) rfl ?_); refine bxe 3 #[.int .i64 0, .int .i64 0, .string (⟨#[]⟩ : ByteArray), .slice none 0 0] 62 ?_; intro gb122 hg w5 BK122 hb; have GW122 := As.mk (gs w hg); replace HB := bs w hb; have NB120_122 := As.mk (nl hg (bx BK120.out)); have NB122_120 := As.mk (ng hg (bx BK120.out)); replace BK120 := bb BK120 hb; have NB121_122 := As.mk (nl hg (bx BK121.out)); have NB122_121 := As.mk (ng hg (bx BK121.out)); replace BK121 := bb BK121 hb; clear hb hg; have hnb6 := NB120_121.out; have hnc6 := NB121_120.out; have hnb7 := NB120_122.out; have hnc7 := NB122_120.out; obtain ⟨y8a, y8b, y8c, y8d, v8a, v8b, v8c, v8d⟩ := cl4 BK120.out; have hnb9 := NB122_121.out; have hnc9 := NB121_122.out; obtain ⟨y10a, y10b, y10c, y10d, v10a, v10b, v10c, v10d⟩ := cl4 BK122.out) | ((with_reducible refine gate_callee (f := 92) rfl ?_); refine goL (some 15) Tryz.func92 #[.slice A0_3 l0_3.length c0_3] ?_; (with_reducible refine (laws_toIntS.calls k _ _ l0_3 t123 _ (cb HR0_3) HC0_3.out A2.out).mono ?_); rintro e w11 ⟨v124, rfl, ho0, hb⟩; refine ⟨_, rfl, ?_⟩; have HO125 := As.mk (Kd.R_lower ho0 (below_size (be w))); replace BK120 := As.mk (blk_below (g := gb120) (o := .cells #[.int .i64 a0_0, .int .i64 a0_1, .string a0_2, .slice A0_3 l0_3.length c0_3] 80 (0, 0)) (by refine pl ?_; refine blk_far ?_ NB120_122.out _; refine pl ?_; refine blk_far ?_ NB120_122.out _; refine pl ?_; refine blk_far ?_ NB120_122.out _; exact bx BK120.out) hb); replace BK121 := As.mk (blk_below (g := gb121) (o := .cells #[.int .i64 0, .int .i64 0, .string (⟨#[]⟩ : ByteArray), .slice none 0 0] 62 (0, 0)) (by refine pl ?_; refine blk_far ?_ NB121_122.out _; refine pl ?_; refine blk_far ?_ NB121_122.out _; refine pl ?_; refine blk_far ?_ NB121_122.out _; exact bx BK121.out) hb); replace BK122 := As.mk (blk_below (g := gb122) (o := .cells #[.int .i64 a0_0, .int .i64 a0_1, .string a0_2, .slice none 0 0] 62 (0, 0)) (by refine pl ?_; refine blk_put (cs := #[.int .i64 a0_0, .int .i64 a0_1, .string (⟨#[]⟩ : ByteArray), .slice none 0 0]) ?_ 2 _ rfl; refine pl ?_; refine blk_put (cs := #[.int .i64 a0_0, .int .i64 0, .string (⟨#[]⟩ : ByteArray), .slice none 0 0]) ?_ 1 _ rfl; refine pl ?_; refine blk_put (cs := #[.int .i64 0, .int .i64 0, .string (⟨#[]⟩ : ByteArray), .slice none 0 0]) ?_ 0 _ rfl; exact bx BK122.out) hb); replace HB := bs w hb; (try clear hb); (try clear ho0); obtain ⟨Ao12, co12, eo12⟩ := Kd.R_slice HO125.out; subst eo12; obtain ⟨y13a, y13b, y13c, y13d, v13a, v13b, v13c, v13d⟩ := cl4 BK122.out; obtain ⟨y14a, y14b, y14c, y14d, v14a, v14b, v14c, v14d⟩ := cl4 BK121.out))
 refine bodyPost_ret (results_cell_row rfl _ _ gb121 62 #[.int .i64 a0_0, .int .i64 a0_1, .string a0_2, .slice Ao12 t123.length co12] (0, 0) _ rfl (by refine pl ?_; refine blk_put (cs := #[.int .i64 a0_0, .int .i64 a0_1, .string a0_2, .slice none 0 0]) ?_ 3 _ rfl; refine pl ?_; refine blk_put (cs := #[.int .i64 a0_0, .int .i64 a0_1, .string (⟨#[]⟩ : ByteArray), .slice none 0 0]) ?_ 2 _ rfl; refine pl ?_; refine blk_put (cs := #[.int .i64 a0_0, .int .i64 0, .string (⟨#[]⟩ : ByteArray), .slice none 0 0]) ?_ 1 _ rfl; refine pl ?_; refine blk_put (cs := #[.int .i64 0, .int .i64 0, .string (⟨#[]⟩ : ByteArray), .slice none 0 0]) ?_ 0 _ rfl; refine pl ?_; refine blk_far ?_ NB121_122.out _; exact bx BK121.out) Tryz.underlying62 rfl (by kernel_rfl)) rfl ?_
 exact ⟨_, ez, by (with_reducible repeat (first | apply Kd.R_alloc | apply Kd.R_drewN | apply Kd.R_drew)); exact Kd.R_mono (Kd.R_far (p := ⟨gb121, 3, none⟩) (Kd.R_far (p := ⟨gb121, 2, none⟩) (Kd.R_far (p := ⟨gb121, 1, none⟩) (Kd.R_far (p := ⟨gb121, 0, none⟩) (Kd.R_far (p := ⟨gb122, 3, none⟩) (Kd.R_types (Kd.R_types HO125.out BK122.out (by decide)) BK121.out (by decide)) (fun _ hk => hk.1.2) (.slice Ao12 t123.length co12)) (fun _ hk => hk.2) (.int .i64 a0_0)) (fun _ hk => hk.2) (.int .i64 a0_1)) (fun _ hk => hk.2) (.string a0_2)) (fun _ hk => hk.2) (.slice Ao12 t123.length co12)) (fun _ hk => trivial), be w⟩

/-! ### laws_toNodeS: function 34 -/
def laws_toNodeS.l0 : Nat → List (S80) → List (S62) → Int → Option ((List (S62)))
 | 0, _, _, _ => none
 | k + 1, x0, x3, x4 => if x4 < (x0.length : Int) then (if 0 ≤ x4 then ((laws_toNode.f k ((rd_T80 x0 x4).f0) ((rd_T80 x0 x4).f1) ((rd_T80 x0 x4).f2) ((rd_T80 x0 x4).f3)).bind fun bt130 => (if x4 < (x3.length : Int) then (laws_toNodeS.l0 k x0 (x3.set (x4 : Int).toNat (⟨bt130.1, bt130.2.1, bt130.2.2.1, bt130.2.2.2⟩ : S62)) (wrap64 (x4 + 1))) else (none))) else (none)) else (some x3)
def laws_toNodeS.f (k : Nat) (l0 : List (S80)) : Option ((List (S62))) := if 0 ≤ (l0.length : Int) then (if ((l0.length : Int) : Int).toNat ≤ 5026338869833 then (laws_toNodeS.l0 k l0 (List.replicate ((l0.length : Int) : Int).toNat z62) 0) else (none)) else (none)
theorem laws_toNodeS.mono_l : ∀ k, (∀ y0 y1 y2, LeO (laws_toNodeS.l0 k y0 y1 y2) (laws_toNodeS.l0 (k + 1) y0 y1 y2))
 | 0 => fun _ _ _ r h => by simp [laws_toNodeS.l0] at h
 | k + 1 => by
  have ih0 := laws_toNodeS.mono_l k
  ·
   intro y0 y1 y2
   unfold laws_toNodeS.l0
   with_reducible repeat' first | exact ih0 _ _ _ | exact laws_toNode.mono _ _ _ _ _ | exact LeO.refl _ | exact LeO.none _ | refine LeO.ite ?_ ?_ | refine LeO.bind ?_ (fun _ => ?_)
theorem laws_toNodeS.mono : ∀ a0 k, LeO (laws_toNodeS.f k a0) (laws_toNodeS.f (k + 1) a0) := by
 intro a0 k; have ih0 := laws_toNodeS.mono_l k
 unfold laws_toNodeS.f
 with_reducible repeat' first | exact ih0 _ _ _ | exact laws_toNode.mono _ _ _ _ _ | exact LeO.refl _ | exact LeO.none _ | refine LeO.ite ?_ ?_ | refine LeO.bind ?_ (fun _ => ?_)
set_option maxHeartbeats 8000000 in
set_option maxRecDepth 100000 in
theorem laws_toNodeS.calls (k : Nat) (A0 : Option Addr) (c0 : Nat) (l0 : List (S80)) (r : List (S62)) (w : World) (hr0 : Kd.C k80 w A0 l0.length l0) (hc0 : l0.length ≤ c0) (h : laws_toNodeS.f k l0 = some r) :
  Calls Tryz.prog 34 #[.slice A0 l0.length c0] w fun e w' => ∃ v0_ : Value, e = .returned (v0_) ∧ Kd.S k62 62 w' w.heap.size (fun _ => True) v0_ r ∧ Below w.heap.size w w' := by
 have hu80 := Tryz.underlying80; have hu62 := Tryz.underlying62; have HR0 := As.mk hr0; have HC0 := As.mk hc0; clear hr0 hc0; have HB := As.mk (Below.refl w.heap.size w); have H : (if 0 ≤ (l0.length : Int) then (if ((l0.length : Int) : Int).toNat ≤ 5026338869833 then (laws_toNodeS.l0 k l0 (List.replicate ((l0.length : Int) : Int).toNat z62) 0) else (none)) else (none)) = some r := h; clear h
 by_cases c2 : 0 ≤ (l0.length : Int)
 rotate_left; · rw [if_neg c2] at H; exact absurd H (by simp)

 rw [if_pos c2] at H; have c2b0 := eq_true c2; have c2b1 := decide_eq_true c2; clear c2; replace H := ie H; obtain ⟨c3b0, c3b1, H⟩ := H
 obtain ⟨y126, hy126⟩ : ∃ y_ : List (S62), y_ = (List.replicate ((l0.length : Int) : Int).toNat z62) := ⟨_, rfl⟩
 replace H : (laws_toNodeS.l0 k l0 y126 0) = some r := by first | (rw [hy126]; with_reducible exact H) | (have H2_ := (Option.bind_some _ _).symm.trans H; rw [hy126]; with_reducible exact H2_) | (have H2_ := (Option.bind_some _ _).symm.trans H; with_reducible exact H2_) | with_reducible exact H | (rw [hy126]; exact H) | exact H
 have Ny126 := As.mk hy126; clear hy126; have H' := As.mk H; clear H; go_enter Tryz.func34, Tryz.ntmps34
 go_wp2_with (first | ((with_reducible refine gate_dst (N := 7) rfl ?_); refine Kd.S_make k62 _ 62 rfl (N := 7) rfl 29 _ _ rfl (l0.length : Int) rfl rfl Tryz.underlying29 (.agg #[(.int .i64 0), (.int .i64 0), (.string ⟨#[]⟩), (.slice none 0 0)]) 56 info62 rfl (by decide) (by omega) z62 (ok := fun _ => True) (okp := fun _ => True) (k62_mkM _ _ _ z62 (Kd.R_nil _ _ _ _ _)) (fun _ hk => hk) trivial (of_decide_eq_true (by first | (with_reducible assumption) | assumption)) (Nat.le_trans (Nat.mul_le_mul_right _ (of_decide_eq_true (by first | (with_reducible assumption) | assumption) : (l0.length : Int).toNat ≤ 5026338869833)) (by omega)) (Below.refl _ _) (Nat.le_refl _) ?_; intro v127 w4 ho5 hb hg_ hnew_; clear hg_ hnew_; (first | rw [← Ny126.out] at ho5 | (simp only [Int.reduceToNat] at ho5; rw [← Ny126.out] at ho5)); have HO128 := As.mk (Kd.S_lower ho5 (below_size (be w))); replace HB := bs w hb; clear hb ho5))
 go_loopg [4] k (fun kq v4 w' => ∃ (x3_1 : List (S62)) (x4_1 : Int), v4 = .int .i64 x4_1 ∧ As (laws_toNodeS.l0 kq l0 x3_1 x4_1 = some r) ∧ As (kq ≤ k) ∧ As (Kd.S k62 62 w' w.heap.size (fun _ => True) v127 x3_1) ∧ As (Below w.heap.size w w'))
 case atStart => exact ⟨(y126), (0), (by first | rfl | (simp; done) | (simp [*]; done)), H', ⟨Nat.le_refl _⟩, ⟨by (with_reducible repeat (first | apply Kd.S_alloc | apply Kd.S_drewN | apply Kd.S_drew)); exact HO128.out⟩, ⟨be w⟩⟩
 case round =>
  clear H'; (try clear c2); (try clear c2b0); (try clear c2b1); (try clear c3); (try clear c3b0); (try clear c3b1); obtain ⟨x3_1, x4_1, rfl, HA, HK1, HO_3, HB⟩ := hrel
  cases gk with
  | zero => exact absurd HA.out (by simp [laws_toNodeS.l0])
  | succ k1 =>
   have H := HA.out; clear HA
   simp only [laws_toNodeS.l0] at H
   by_cases c6 : x4_1 < (l0.length : Int)
   rotate_left
   ·
    rw [if_neg c6] at H; have c6b0 := decide_eq_false c6; clear c6; obtain rfl := sj H
    go_wp2
    go_ret
    exact ⟨_, ez, by (with_reducible repeat (first | apply Kd.S_alloc | apply Kd.S_drewN | apply Kd.S_drew)); exact HO_3.out, be w⟩
   rw [if_pos c6] at H; have c6b0 := decide_eq_true c6; clear c6; replace H := ia H; obtain ⟨c7b0, H⟩ := H; replace H := bo H; obtain ⟨⟨t130, t131, t132, t133⟩, A8, H⟩ := H
   try dsimp only at H
   replace H := ia H; obtain ⟨c9b0, H⟩ := H
   obtain ⟨y136, hy136⟩ : ∃ y_ : List (S62), y_ = (x3_1.set (x4_1 : Int).toNat (⟨t130, t131, t132, t133⟩ : S62)) := ⟨_, rfl⟩
   replace H : (laws_toNodeS.l0 k1 l0 y136 (wrap64 (x4_1 + 1))) = some r := by first | (rw [hy136]; with_reducible exact H) | (have H2_ := (Option.bind_some _ _).symm.trans H; rw [hy136]; with_reducible exact H2_) | (have H2_ := (Option.bind_some _ _).symm.trans H; with_reducible exact H2_) | with_reducible exact H | (rw [hy136]; exact H) | exact H
   have Ny136 := As.mk hy136; clear hy136; have H' := As.mk H; clear H; obtain ⟨ad129, A129_3, c129_3, e129, p129, q129, x129a, x129b, x129c, x129d, HC129_3, HR129_3⟩ := bt_T80 HB.out HR0.out x4_1 od od; cases e129
   go_wp2_with (first | ((with_reducible refine gate_callee (f := 66) rfl ?_); refine goL (some 20) Tryz.func66 #[.agg #[.int .i64 ((rd_T80 l0 x4_1).f0), .int .i64 ((rd_T80 l0 x4_1).f1), .string ((rd_T80 l0 x4_1).f2), .slice A129_3 ((rd_T80 l0 x4_1).f3).length c129_3]] ?_; (with_reducible refine (laws_toNode.calls k1 ((rd_T80 l0 x4_1).f0) ((rd_T80 l0 x4_1).f1) ((rd_T80 l0 x4_1).f2) _ _ ((rd_T80 l0 x4_1).f3) t130 t131 t132 t133 _ (cb HR129_3) HC129_3.out A8.out).mono ?_); rintro e w11 ⟨v134, rfl, ho0, hb⟩; refine ⟨_, rfl, ?_⟩; replace HO_3 := As.mk (Kd.S_elder' (by (with_reducible repeat (first | apply Kd.S_alloc | apply Kd.S_drewN | apply Kd.S_drew)); exact HO_3.out) (Kd.R_base ho0) hb); have HO135 := As.mk (Kd.R_lower ho0 (below_size (be w))); replace HB := bs w hb; (try clear hb); (try clear hk); (try clear ho0); have p10 : 0 ≤ (x4_1 : Int) := od; have q10 : (x4_1 : Int) < ((x3_1.length : Int) : Int) := od; obtain ⟨go10, co10, eo10, gb10, gl10, cl10, HG10⟩ := Kd.S_form HO_3.out (by omega); (first | cases eo10 | (injection eo10 with ea_ en_ ec_; (first | subst ea_ | (injection ea_ with ea_; subst ea_)); subst ec_; clear en_)); have GB10 := As.mk gb10; have GG10 := As.mk HG10; clear gb10 gl10 HG10; obtain ⟨_, ce10, hcl10, hM10, hcc10, hfr10, _, _⟩ := Kd.S_elem HO_3.out z62 (x4_1 : Int) p10 q10; obtain ⟨ve10_3, rfl, ge10_3⟩ := k62_openM hM10; have x10a : w11.cell? ⟨go10, (x4_1 : Int).toNat * 4, none⟩ = some (.int .i64 ((rd_T62 x3_1 x4_1).f0)) := hcc10 0 _ rfl; have x10b : w11.cell? ⟨go10, (x4_1 : Int).toNat * 4 + 1, none⟩ = some (.int .i64 ((rd_T62 x3_1 x4_1).f1)) := hcc10 1 _ rfl; have x10c : w11.cell? ⟨go10, (x4_1 : Int).toNat * 4 + 2, none⟩ = some (.string ((rd_T62 x3_1 x4_1).f2)) := hcc10 2 _ rfl; have x10d : w11.cell? ⟨go10, (x4_1 : Int).toNat * 4 + 3, none⟩ = some (ve10_3) := hcc10 3 _ rfl; have f10a : w11.frozen? ⟨go10, (x4_1 : Int).toNat * 4, none⟩ = false := hfr10 0; have f10b : w11.frozen? ⟨go10, (x4_1 : Int).toNat * 4 + 1, none⟩ = false := hfr10 1; have f10c : w11.frozen? ⟨go10, (x4_1 : Int).toNat * 4 + 2, none⟩ = false := hfr10 2; have f10d : w11.frozen? ⟨go10, (x4_1 : Int).toNat * 4 + 3, none⟩ = false := hfr10 3; clear hcl10 hcc10 hfr10 hM10; replace p10 := eq_true p10; replace q10 := eq_true q10; have n_ := As.mk (Kd.S_mono (ok' := (fun k_ => some k_ ≠ (v134 : Value).ownBlock)) HO_3.out (fun k_ hk => hk.2)); clear HO_3; have HO_3 := n_; clear n_; have HX12 := As.mk (show Kd.S k62 62 w11 w.heap.size (fun k_ => ((fun _ => True)) k_ ∧ ¬ ((fun k_ => some k_ = (v134 : Value).ownBlock)) k_) (.slice (some ⟨go10, 0, none⟩) x3_1.length co10) x3_1 from (by (with_reducible repeat (first | apply Kd.S_alloc | apply Kd.S_drewN | apply Kd.S_drew)); exact Kd.S_mono HO_3.out (fun k_ hk => ⟨trivial, fun e_ => hk e_⟩))); obtain ⟨oki12, ce12, hcl12, hM12, hcc12, hfr12, hoki12, hH12⟩ := Kd.S_elem HX12.out z62 (x4_1 : Int) (of_decide_eq_true (by first | (with_reducible assumption) | assumption)) (by have h_ : (x4_1 : Int) < ((x3_1.length : Int) : Int) := od; first | exact h_ | (have e_ := (Kd.S_reads' HO_3.out).1; omega) | simpa using h_); obtain ⟨ve12_3, rfl, ge12_3⟩ := k62_openM hM12; have HP12 := Kd.S_seg hH12 (of_decide_eq_true (by first | (with_reducible assumption) | assumption)) (by have h_ : (x4_1 : Int) < ((x3_1.length : Int) : Int) := od; first | exact h_ | (have e_ := (Kd.S_reads' HO_3.out).1; omega) | simpa using h_) (seg := [.int .i64 t130, .int .i64 t131, .string t132, v134]) (j := 0) (show 4 ≤ 4 from by decide) (x' := (⟨t130, t131, t132, t133⟩ : S62)) (k62_mkM _ _ _ (⟨t130, t131, t132, t133⟩ : S62) (Kd.R_mono (Kd.R_tight rfl (Kd.R_mono (ok' := fun k_ => ((fun _ => True)) k_ ∧ k_ ≠ go10) (Kd.R_apart' (HO135.out) (Kd.S_typed HO_3.out) (by decide)) (fun k_ hk => ⟨trivial, fun e_ => (hk.2) (by rw [e_]; rfl)⟩))) (fun _ h_ => Or.inr (h_)))) (fun _ hk => hk) (fun k_ hk_ => ((Kd.R_mono (ok' := fun k_ => ((fun _ => True)) k_ ∧ k_ ≠ go10) (Kd.R_apart' (HO135.out) (Kd.S_typed HO_3.out) (by decide)) (fun k_ hk => ⟨trivial, fun e_ => (hk.2) (by rw [e_]; rfl)⟩))).1 k_ hk_.symm); have x12a := hcc12 0 _ rfl; (try simp only [show (k62).sz = 4 from rfl, Nat.mul_one, Nat.add_zero] at x12a); have f12a := hfr12 0; (try simp only [show (k62).sz = 4 from rfl, Nat.mul_one, Nat.add_zero] at f12a); have x12b := hcc12 1 _ rfl; (try simp only [show (k62).sz = 4 from rfl, Nat.mul_one, Nat.add_zero] at x12b); have f12b := hfr12 1; (try simp only [show (k62).sz = 4 from rfl, Nat.mul_one, Nat.add_zero] at f12b); have x12c := hcc12 2 _ rfl; (try simp only [show (k62).sz = 4 from rfl, Nat.mul_one, Nat.add_zero] at x12c); have f12c := hfr12 2; (try simp only [show (k62).sz = 4 from rfl, Nat.mul_one, Nat.add_zero] at f12c); have x12d := hcc12 3 _ rfl; (try simp only [show (k62).sz = 4 from rfl, Nat.mul_one, Nat.add_zero] at x12d); have f12d := hfr12 3; (try simp only [show (k62).sz = 4 from rfl, Nat.mul_one, Nat.add_zero] at f12d); clear hcl12 hcc12 hfr12 hM12 hoki12 hH12) | ((with_reducible refine gate_store (t := 62) (p := 21) rfl ?_); refine store_event (t := 62) (p := 21) (v := ?vo_w13) (w1 := ((((w11.setCell ⟨go10, (x4_1 : Int).toNat * 4, none⟩ (.int .i64 t130)).setCell ⟨go10, (x4_1 : Int).toNat * 4 + 1, none⟩ (.int .i64 t131)).setCell ⟨go10, (x4_1 : Int).toNat * 4 + 2, none⟩ (.string t132)).setCell ⟨go10, (x4_1 : Int).toNat * 4 + 3, none⟩ (v134))) ?hg ?ho ?hn ?hr ?_; (case ho => rfl); (case hg => rfl); (case hn => rfl); (case hr => (try (obtain ⟨_, _, e_⟩ := Kd.R_slice HO135.out; subst e_)); first | (go_simp; done) | (go_simp; rfl)); intro w13 hw; have hg : w11.grownBy w13 (some go10) := (by rw [hw]; exact HP12.2); have hp_ : Kd.S k62 62 w13 w.heap.size (fun _ => True) (.slice (some ⟨go10, 0, none⟩) x3_1.length co10) y136 := (by rw [hw, Ny136.out]; exact HP12.1); clear HP12; replace HO_3 := As.mk (hp_); replace HB := As.mk ((by rw [hw]; exact below_set (below_set (below_set (below_set (HB.out) GB10.out) GB10.out) GB10.out) GB10.out : Below w.heap.size w w13)); clear HO135; clear hg hw hp_))
   go_roundg k1
   case measure => have := HK1.out; omega
   case rel => exact ⟨(y136), (wrap64 (x4_1 + 1)), (by first | rfl | (simp; done) | (simp [*]; done)), H', ⟨by have := HK1.out; omega⟩, ⟨by (with_reducible repeat (first | apply Kd.S_alloc | apply Kd.S_drewN | apply Kd.S_drew)); exact HO_3.out⟩, ⟨be w⟩⟩
/-! ### laws_toParam: function 111 -/
def laws_toParam.f (a0_0 : ByteArray) (a0_1 : Int) : Option (ByteArray × Int) := some (a0_0, a0_1)
set_option maxHeartbeats 8000000 in
set_option maxRecDepth 100000 in
theorem laws_toParam.calls (a0_0 : ByteArray) (a0_1 : Int) (r1 : ByteArray) (r2 : Int) (w : World) (h : laws_toParam.f a0_0 a0_1 = some (r1, r2)) :
  Calls Tryz.prog 111 #[.agg #[.string a0_0, .int .i64 a0_1]] w fun e w' => e = .returned (.agg #[.string r1, .int .i64 r2]) ∧ Below w.heap.size w w' := by
 have hu124 := Tryz.underlying124; have hu58 := Tryz.underlying58; have HB := As.mk (Below.refl w.heap.size w); have H : (some (a0_0, a0_1)) = some (r1, r2) := h; clear h
 simp only [Option.some.injEq, Prod.mk.injEq] at H
 obtain ⟨rfl, rfl⟩ := H; go_enter Tryz.func111, Tryz.ntmps111
 go_wp2_with (first | ((with_reducible refine gate_dst (N := 1) rfl ?_); refine bxe 1 #[.string a0_0, .int .i64 a0_1] 124 ?_; intro gb137 hg w2 BK137 hb; have GW137 := As.mk (gs w hg); replace HB := bs w hb; clear hb hg) | ((with_reducible refine gate_dst (N := 2) rfl ?_); refine bxe 2 #[.string (⟨#[]⟩ : ByteArray), .int .i64 0] 58 ?_; intro gb138 hg w3 BK138 hb; have GW138 := As.mk (gs w hg); replace HB := bs w hb; have NB137_138 := As.mk (nl hg (bx BK137.out)); have NB138_137 := As.mk (ng hg (bx BK137.out)); replace BK137 := bb BK137 hb; clear hb hg) | ((with_reducible refine gate_dst (N := 3) rfl ?_); refine bxe 3 #[.string (⟨#[]⟩ : ByteArray), .int .i64 0] 58 ?_; intro gb139 hg w4 BK139 hb; have GW139 := As.mk (gs w hg); replace HB := bs w hb; have NB137_139 := As.mk (nl hg (bx BK137.out)); have NB139_137 := As.mk (ng hg (bx BK137.out)); replace BK137 := bb BK137 hb; have NB138_139 := As.mk (nl hg (bx BK138.out)); have NB139_138 := As.mk (ng hg (bx BK138.out)); replace BK138 := bb BK138 hb; clear hb hg; have hnb5 := NB137_138.out; have hnc5 := NB138_137.out; have hnb6 := NB137_139.out; have hnc6 := NB139_137.out; obtain ⟨y7a, y7b, v7a, v7b⟩ := cl2 BK137.out; have hnb8 := NB139_138.out; have hnc8 := NB138_139.out; obtain ⟨y9a, y9b, v9a, v9b⟩ := cl2 BK139.out; obtain ⟨y10a, y10b, v10a, v10b⟩ := cl2 BK138.out))
 refine bodyPost_ret (results_cell_row rfl _ _ gb138 58 #[.string a0_0, .int .i64 a0_1] (0, 0) _ rfl (by refine pl ?_; refine blk_put (cs := #[.string a0_0, .int .i64 0]) ?_ 1 _ rfl; refine pl ?_; refine blk_put (cs := #[.string (⟨#[]⟩ : ByteArray), .int .i64 0]) ?_ 0 _ rfl; refine pl ?_; refine blk_far ?_ NB138_139.out _; refine pl ?_; refine blk_far ?_ NB138_139.out _; exact bx BK138.out) Tryz.underlying58 rfl (by kernel_rfl)) rfl ?_
 exact ⟨ez, be w⟩

end Go.Proofs.YtcoapbnbakmkoaaGreatDoor.PFnExactShowProgram
