/- Written by a program of this session (a turned copy of the kit's print): a contract for each Go function. No condition beside those in each statement. -/
import Derived.Test.YtcoapbnbakmkoaaGreatDoorPFnExactShowProgramx0
import Derived.Test.YtcoapbnbakmkoaaGreatDoorPFnExactShowProgramx3
import Derived.Test.YtcoapbnbakmkoaaGreatDoorPFnExactShowProgramx4
namespace Go.Proofs.YtcoapbnbakmkoaaGreatDoor.PFnExactShowProgram
open Go.RowKit Go.Proofs.YtcoapbnbakmkoaaGreatDoor.Given Go.Proofs.YtcoapbnbakmkoaaGreatDoorW.PrintWords Go.Proofs.YtcoapbnbakmkoaaGreatDoorW.PrintLast Go.Proofs.YtcoapbnbakmkoaaGreatDoorW.PrintMore
attribute [local go_sem] max2_int min2_int max_two min_two max_three min_three max_four min_four   -- for this text's walks alone
set_option linter.unusedVariables false
set_option linter.unusedSimpArgs false

/-! ### spec_NodeOk: function 95 -/
mutual
def spec_NodeOk.j0 : Nat → List (S62) → Int → Bool → Option (Bool)
 | 0, _, _, _ => none
 | k + 1, x0, x1, x24 => if x24 = true then (some false) else (if 0 ≤ x1 then (if x1 < (x0.length : Int) then ((spec_l04Kids.f k ((rd_T62 x0 x1).f0)).bind fun bt219 => ((spec_l01In.f (((rd_T62 x0 x1).f3).length : Int) bt219.1 bt219.2).bind fun t221 => (if t221 = true then ((spec_l01In.f ((rd_T62 x0 x1).f1) 0 1000000000).bind fun t222 => (if t222 = true then (if ((rd_T62 x0 x1).f0) = 1 then (spec_NodeOk.j1 k x0 x1 false ((rd_T62 x0 x1).f0) ((rd_T62 x0 x1).f1) ((rd_T62 x0 x1).f2) ((rd_T62 x0 x1).f3)) else (spec_NodeOk.j1 k x0 x1 (((rd_T62 x0 x1).f1) != 0) ((rd_T62 x0 x1).f0) ((rd_T62 x0 x1).f1) ((rd_T62 x0 x1).f2) ((rd_T62 x0 x1).f3))) else (spec_NodeOk.j1 k x0 x1 true ((rd_T62 x0 x1).f0) ((rd_T62 x0 x1).f1) ((rd_T62 x0 x1).f2) ((rd_T62 x0 x1).f3)))) else (spec_NodeOk.j1 k x0 x1 true ((rd_T62 x0 x1).f0) ((rd_T62 x0 x1).f1) ((rd_T62 x0 x1).f2) ((rd_T62 x0 x1).f3))))) else (none)) else (none))
def spec_NodeOk.j1 : Nat → List (S62) → Int → Bool → Int → Int → ByteArray → List Int → Option (Bool)
 | 0, _, _, _, _, _, _, _ => none
 | k + 1, x0, x1, x57, x219000, x219001, x219002, x219003 => if x57 = true then (some false) else ((spec_l04Named.f x219000).bind fun t223 => (if (t223 != (x219002.toList != ([] : List UInt8))) = true then (spec_NodeOk.j2 k x0 x1 true x219000 x219001 x219002 x219003) else (if x219002.toList = ([] : List UInt8) then (spec_NodeOk.j2 k x0 x1 false x219000 x219001 x219002 x219003) else ((spec_NameOk.f k x219002).bind fun t224 => (spec_NodeOk.j2 k x0 x1 (!t224) x219000 x219001 x219002 x219003)))))
def spec_NodeOk.j2 : Nat → List (S62) → Int → Bool → Int → Int → ByteArray → List Int → Option (Bool)
 | 0, _, _, _, _, _, _, _ => none
 | k + 1, x0, x1, x75, x219000, x219001, x219002, x219003 => if x75 = true then (some false) else (spec_NodeOk.l0 k x0 x1 0 x219000 x219001 x219002 x219003)
def spec_NodeOk.l0 : Nat → List (S62) → Int → Int → Int → Int → ByteArray → List Int → Option (Bool)
 | 0, _, _, _, _, _, _, _ => none
 | k + 1, x0, x1, x8, x219000, x219001, x219002, x219003 => if x8 < (x219003.length : Int) then (if 0 ≤ x8 then ((spec_l01In.f (rd x219003 x8) 0 (wrap64 (x1 - 1))).bind fun t226 => (if t226 = true then (if 0 ≤ (rd x219003 x8) then (if (rd x219003 x8) < (x0.length : Int) then ((spec_l04Fits.f k x219000 x8 ((rd_T62 x0 (rd x219003 x8)).f0)).bind fun t229 => (spec_NodeOk.j4 k x0 x1 x8 (!t229) x219000 x219001 x219002 x219003)) else (none)) else (none)) else (spec_NodeOk.j4 k x0 x1 x8 true x219000 x219001 x219002 x219003))) else (none)) else (some true)
def spec_NodeOk.j4 : Nat → List (S62) → Int → Int → Bool → Int → Int → ByteArray → List Int → Option (Bool)
 | 0, _, _, _, _, _, _, _, _ => none
 | k + 1, x0, x1, x8, x107, x219000, x219001, x219002, x219003 => if x107 = true then (some false) else (spec_NodeOk.l1 k x0 x1 x8 0 x219000 x219001 x219002 x219003)
def spec_NodeOk.l1 : Nat → List (S62) → Int → Int → Int → Int → Int → ByteArray → List Int → Option (Bool)
 | 0, _, _, _, _, _, _, _, _ => none
 | k + 1, x0, x1, x8, x9, x219000, x219001, x219002, x219003 => if x9 < x8 then (if 0 ≤ x8 then (if x8 < (x219003.length : Int) then (if 0 ≤ x9 then (if x9 < (x219003.length : Int) then (if (rd x219003 x8) = (rd x219003 x9) then (some false) else (spec_NodeOk.l1 k x0 x1 x8 (wrap64 (x9 + 1)) x219000 x219001 x219002 x219003)) else (none)) else (none)) else (none)) else (none)) else (spec_NodeOk.l0 k x0 x1 (wrap64 (x8 + 1)) x219000 x219001 x219002 x219003)
end
def spec_NodeOk.f (k : Nat) (l0 : List (S62)) (a1 : Int) : Option (Bool) := (spec_l01In.f a1 0 (wrap64 ((l0.length : Int) - 1))).bind fun t214 => (if t214 = true then (if 0 ≤ a1 then (if a1 < (l0.length : Int) then ((spec_l01In.f ((rd_T62 l0 a1).f0) 1 20).bind fun t216 => (spec_NodeOk.j0 k l0 a1 (!t216))) else (none)) else (none)) else (spec_NodeOk.j0 k l0 a1 true))
theorem spec_NodeOk.mono_l : ∀ k, (∀ y0 y1 y2, LeO (spec_NodeOk.j0 k y0 y1 y2) (spec_NodeOk.j0 (k + 1) y0 y1 y2)) ∧ (∀ y0 y1 y2 y3 y4 y5 y6, LeO (spec_NodeOk.j1 k y0 y1 y2 y3 y4 y5 y6) (spec_NodeOk.j1 (k + 1) y0 y1 y2 y3 y4 y5 y6)) ∧ (∀ y0 y1 y2 y3 y4 y5 y6, LeO (spec_NodeOk.j2 k y0 y1 y2 y3 y4 y5 y6) (spec_NodeOk.j2 (k + 1) y0 y1 y2 y3 y4 y5 y6)) ∧ (∀ y0 y1 y2 y3 y4 y5 y6, LeO (spec_NodeOk.l0 k y0 y1 y2 y3 y4 y5 y6) (spec_NodeOk.l0 (k + 1) y0 y1 y2 y3 y4 y5 y6)) ∧ (∀ y0 y1 y2 y3 y4 y5 y6 y7, LeO (spec_NodeOk.j4 k y0 y1 y2 y3 y4 y5 y6 y7) (spec_NodeOk.j4 (k + 1) y0 y1 y2 y3 y4 y5 y6 y7)) ∧ (∀ y0 y1 y2 y3 y4 y5 y6 y7, LeO (spec_NodeOk.l1 k y0 y1 y2 y3 y4 y5 y6 y7) (spec_NodeOk.l1 (k + 1) y0 y1 y2 y3 y4 y5 y6 y7))
 | 0 => ⟨fun _ _ _ r h => by simp [spec_NodeOk.j0] at h, fun _ _ _ _ _ _ _ r h => by simp [spec_NodeOk.j1] at h, fun _ _ _ _ _ _ _ r h => by simp [spec_NodeOk.j2] at h, fun _ _ _ _ _ _ _ r h => by simp [spec_NodeOk.l0] at h, fun _ _ _ _ _ _ _ _ r h => by simp [spec_NodeOk.j4] at h, fun _ _ _ _ _ _ _ _ r h => by simp [spec_NodeOk.l1] at h⟩
 | k + 1 => by
  obtain ⟨ih0, ih1, ih2, ih3, ih4, ih5⟩ := spec_NodeOk.mono_l k
  refine ⟨?_, ?_, ?_, ?_, ?_, ?_⟩
  ·
   intro y0 y1 y2
   unfold spec_NodeOk.j0
   with_reducible repeat' first | exact ih0 _ _ _ | exact ih1 _ _ _ _ _ _ _ | exact ih2 _ _ _ _ _ _ _ | exact ih3 _ _ _ _ _ _ _ | exact ih4 _ _ _ _ _ _ _ _ | exact ih5 _ _ _ _ _ _ _ _ | exact spec_NameOk.mono _ _ | exact spec_l04Fits.mono _ _ _ _ | exact spec_l04Kids.mono _ _ | exact LeO.refl _ | exact LeO.none _ | refine LeO.ite ?_ ?_ | refine LeO.bind ?_ (fun _ => ?_)
  ·
   intro y0 y1 y2 y3 y4 y5 y6
   unfold spec_NodeOk.j1
   with_reducible repeat' first | exact ih0 _ _ _ | exact ih1 _ _ _ _ _ _ _ | exact ih2 _ _ _ _ _ _ _ | exact ih3 _ _ _ _ _ _ _ | exact ih4 _ _ _ _ _ _ _ _ | exact ih5 _ _ _ _ _ _ _ _ | exact spec_NameOk.mono _ _ | exact spec_l04Fits.mono _ _ _ _ | exact spec_l04Kids.mono _ _ | exact LeO.refl _ | exact LeO.none _ | refine LeO.ite ?_ ?_ | refine LeO.bind ?_ (fun _ => ?_)
  ·
   intro y0 y1 y2 y3 y4 y5 y6
   unfold spec_NodeOk.j2
   with_reducible repeat' first | exact ih0 _ _ _ | exact ih1 _ _ _ _ _ _ _ | exact ih2 _ _ _ _ _ _ _ | exact ih3 _ _ _ _ _ _ _ | exact ih4 _ _ _ _ _ _ _ _ | exact ih5 _ _ _ _ _ _ _ _ | exact spec_NameOk.mono _ _ | exact spec_l04Fits.mono _ _ _ _ | exact spec_l04Kids.mono _ _ | exact LeO.refl _ | exact LeO.none _ | refine LeO.ite ?_ ?_ | refine LeO.bind ?_ (fun _ => ?_)
  ·
   intro y0 y1 y2 y3 y4 y5 y6
   unfold spec_NodeOk.l0
   with_reducible repeat' first | exact ih0 _ _ _ | exact ih1 _ _ _ _ _ _ _ | exact ih2 _ _ _ _ _ _ _ | exact ih3 _ _ _ _ _ _ _ | exact ih4 _ _ _ _ _ _ _ _ | exact ih5 _ _ _ _ _ _ _ _ | exact spec_NameOk.mono _ _ | exact spec_l04Fits.mono _ _ _ _ | exact spec_l04Kids.mono _ _ | exact LeO.refl _ | exact LeO.none _ | refine LeO.ite ?_ ?_ | refine LeO.bind ?_ (fun _ => ?_)
  ·
   intro y0 y1 y2 y3 y4 y5 y6 y7
   unfold spec_NodeOk.j4
   with_reducible repeat' first | exact ih0 _ _ _ | exact ih1 _ _ _ _ _ _ _ | exact ih2 _ _ _ _ _ _ _ | exact ih3 _ _ _ _ _ _ _ | exact ih4 _ _ _ _ _ _ _ _ | exact ih5 _ _ _ _ _ _ _ _ | exact spec_NameOk.mono _ _ | exact spec_l04Fits.mono _ _ _ _ | exact spec_l04Kids.mono _ _ | exact LeO.refl _ | exact LeO.none _ | refine LeO.ite ?_ ?_ | refine LeO.bind ?_ (fun _ => ?_)
  ·
   intro y0 y1 y2 y3 y4 y5 y6 y7
   unfold spec_NodeOk.l1
   with_reducible repeat' first | exact ih0 _ _ _ | exact ih1 _ _ _ _ _ _ _ | exact ih2 _ _ _ _ _ _ _ | exact ih3 _ _ _ _ _ _ _ | exact ih4 _ _ _ _ _ _ _ _ | exact ih5 _ _ _ _ _ _ _ _ | exact spec_NameOk.mono _ _ | exact spec_l04Fits.mono _ _ _ _ | exact spec_l04Kids.mono _ _ | exact LeO.refl _ | exact LeO.none _ | refine LeO.ite ?_ ?_ | refine LeO.bind ?_ (fun _ => ?_)
theorem spec_NodeOk.mono : ∀ a0 a1 k, LeO (spec_NodeOk.f k a0 a1) (spec_NodeOk.f (k + 1) a0 a1) := by
 intro a0 a1 k; obtain ⟨ih0, ih1, ih2, ih3, ih4, ih5⟩ := spec_NodeOk.mono_l k
 unfold spec_NodeOk.f
 with_reducible repeat' first | exact ih0 _ _ _ | exact ih1 _ _ _ _ _ _ _ | exact ih2 _ _ _ _ _ _ _ | exact ih3 _ _ _ _ _ _ _ | exact ih4 _ _ _ _ _ _ _ _ | exact ih5 _ _ _ _ _ _ _ _ | exact spec_NameOk.mono _ _ | exact spec_l04Fits.mono _ _ _ _ | exact spec_l04Kids.mono _ _ | exact LeO.refl _ | exact LeO.none _ | refine LeO.ite ?_ ?_ | refine LeO.bind ?_ (fun _ => ?_)
def spec_NodeOk.T7 : Bool × List (List Nat × List Nat) := (true, [([], []), ([0], [0]), ([1], [1]), ([], []), ([3], [3]), ([4], [4]), ([2, 5], [2, 5]), ([6, 2], [6]), ([7], [7]), ([8, 7], [7, 8]), ([9, 7], [7, 9]), ([10, 7, 7], [7, 10]), ([11], [11]), ([12, 11], [11, 12]), ([13, 11, 11], [11, 13]), ([14, 11], [11, 14]), ([11, 15, 7], [7, 11, 15]), ([7, 16], [7, 16])])
def spec_NodeOk.B7 : List Nat := [0, 1, 3, 0, 8, 24, 63, 127, 255, 511, 1023, 2047, 4095, 8191, 16383, 32767, 65535, 131071]
theorem spec_NodeOk.tab7 : rtab .any (opsOf Tryz.f95 7) = spec_NodeOk.T7 := by kernel_rfl
theorem spec_NodeOk.bits7 : waitsOk spec_NodeOk.T7.2 spec_NodeOk.B7 = true := by kernel_rfl
def spec_NodeOk.T12 : Bool × List (List Nat × List Nat) := (true, [([], []), ([0], [0]), ([], []), ([1, 2], [1, 2]), ([3], [3]), ([], []), ([5], [5]), ([4, 6], [4, 6]), ([7], [7]), ([8, 7], [8]), ([9], [9]), ([10, 9], [9, 10]), ([9], [9]), ([9], [9]), ([9], [9]), ([14, 9], [9, 14]), ([9], [9]), ([15, 16, 9], [9, 15, 16]), ([17, 9], [9, 17]), ([13, 18, 9], [9, 13, 18]), ([19, 9], [9, 19]), ([20, 9], [9, 20]), ([11, 12, 21, 9, 9], [9, 11, 12, 21]), ([22, 9], [9, 22]), ([9, 23], [9, 23])])
def spec_NodeOk.B12 : List Nat := [0, 1, 0, 7, 15, 0, 32, 127, 255, 511, 1023, 2047, 1023, 1023, 1023, 17407, 1023, 115711, 246783, 517119, 1041407, 2089983, 4194303, 8388607, 16777215]
theorem spec_NodeOk.tab12 : rtab .any (opsOf Tryz.f95 12) = spec_NodeOk.T12 := by kernel_rfl
theorem spec_NodeOk.bits12 : waitsOk spec_NodeOk.T12.2 spec_NodeOk.B12 = true := by kernel_rfl
def spec_NodeOk.T17 : Bool × List (List Nat × List Nat) := (true, [([], []), ([0], [0]), ([], []), ([1, 2], [1, 2]), ([3], [3]), ([], []), ([5], [5]), ([], []), ([6, 7], [6, 7]), ([8], [8]), ([4, 9], [4, 9])])
def spec_NodeOk.B17 : List Nat := [0, 1, 0, 7, 15, 0, 32, 0, 224, 480, 1023]
theorem spec_NodeOk.tab17 : rtab .any (opsOf Tryz.f95 17) = spec_NodeOk.T17 := by kernel_rfl
theorem spec_NodeOk.bits17 : waitsOk spec_NodeOk.T17.2 spec_NodeOk.B17 = true := by kernel_rfl
set_option maxHeartbeats 8000000 in
set_option maxRecDepth 100000 in
theorem spec_NodeOk.calls (k : Nat) (A0 : Option Addr) (c0 : Nat) (l0 : List (S62)) (a1 : Int) (r : Bool) (w : World) (hr0 : Kd.C k62 w A0 l0.length l0) (hc0 : l0.length ≤ c0) (h : spec_NodeOk.f k l0 a1 = some r) :
  Calls Tryz.prog 95 #[.slice A0 l0.length c0, .int .i64 a1] w fun e w' => e = .returned (.bool r) ∧ Below w.heap.size w w' := by
 have hu62 := Tryz.underlying62; have HR0 := As.mk hr0; have HC0 := As.mk hc0; clear hr0 hc0; have HB := As.mk (Below.refl w.heap.size w); have H : ((spec_l01In.f a1 0 (wrap64 ((l0.length : Int) - 1))).bind fun t214 => (if t214 = true then (if 0 ≤ a1 then (if a1 < (l0.length : Int) then ((spec_l01In.f ((rd_T62 l0 a1).f0) 1 20).bind fun t216 => (spec_NodeOk.j0 k l0 a1 (!t216))) else (none)) else (none)) else (spec_NodeOk.j0 k l0 a1 true))) = some r := h; clear h; have HC3 := As.mk H; clear H; go_enter Tryz.func95, Tryz.ntmps95
 go_upto_region 1 with (fail)
 go_cut [24] (fun v24 wc => ∃ (kq : Nat) (x24_2 : Bool), v24 = .bool x24_2 ∧ As (spec_NodeOk.j0 kq l0 a1 x24_2 = some r) ∧ As (kq ≤ k) ∧ As (Below w.heap.size w wc))
 case first =>
  have H := HC3.out; clear HC3; replace H := bo H; obtain ⟨t214, A4, H⟩ := H
  by_cases c5 : t214 = true
  rotate_left
  ·
   replace c5 := Bool.eq_false_iff.mpr c5; subst c5; rw [if_neg ft] at H; have H' := As.mk H; clear H
   go_wp2_with (first | ((with_reducible refine gate_callee (f := 33) rfl ?_); refine goL (some 14) Tryz.func33 #[.int .i64 a1, .int .i64 0, .int .i64 (wrap64 ((l0.length : Int) - 1))] ?_; (with_reducible refine (spec_l01In.calls a1 0 (wrap64 ((l0.length : Int) - 1)) false _ A4.out).mono ?_); rintro e w' ⟨rfl, ⟨nd, rfl⟩⟩; refine ⟨_, rfl, ?_⟩))
   go_meet
   case rel => exact ⟨_, (true), (by first | rfl | (simp; done) | (simp [*]; done)), H', ⟨by first | omega | exact Nat.le_refl _⟩, ⟨be w⟩⟩
  subst c5; rw [if_pos rfl] at H; replace H := ia H; obtain ⟨c6b0, H⟩ := H
  (first | rw [c6b0] | (simp only [i64_w, i32_w]; rw [c6b0]) | skip)
  replace H := ia H; obtain ⟨c7b0, H⟩ := H; replace H := bo H; obtain ⟨t216, A8, H⟩ := H; have H' := As.mk H; clear H
  go_wp2_with (first | ((with_reducible refine gate_callee (f := 33) rfl ?_); refine goL (some 14) Tryz.func33 #[.int .i64 a1, .int .i64 0, .int .i64 (wrap64 ((l0.length : Int) - 1))] ?_; (with_reducible refine (spec_l01In.calls a1 0 (wrap64 ((l0.length : Int) - 1)) true _ A4.out).mono ?_); rintro e w' ⟨rfl, ⟨nd, rfl⟩⟩; refine ⟨_, rfl, ?_⟩; obtain ⟨ad215, A215_3, c215_3, e215, p215, q215, x215a, x215b, x215c, x215d, HC215_3, HR215_3⟩ := bt_T62 HB.out HR0.out a1 od od; cases e215) | (go_at_call 33; (with_reducible refine (spec_l01In.calls ((rd_T62 l0 a1).f0) 1 20 t216 _ A8.out).mono ?_); rintro e w' ⟨rfl, ⟨nd, rfl⟩⟩))
  go_meet
  case rel => exact ⟨_, (!t216), (by first | rfl | (simp; done) | (simp [*]; done)), H', ⟨by first | omega | exact Nat.le_refl _⟩, ⟨be w⟩⟩
 case rest =>
  clear HC3; obtain ⟨kq, x24_2, rfl, HA, HJ2, HB⟩ := hcut
  cases kq with
  | zero => exact absurd HA.out (by simp [spec_NodeOk.j0])
  | succ kj2 =>
   have H := HA.out; clear HA
   simp only [spec_NodeOk.j0] at H
   by_cases c9 : x24_2 = true
   ·
    subst c9; rw [if_pos rfl] at H; obtain rfl := sj H
    go_wp2
    go_ret
    exact ⟨ez, be w⟩
   replace c9 := Bool.eq_false_iff.mpr c9; subst c9; rw [if_neg ft] at H
   by_cases c10 : 0 ≤ a1
   rotate_left; · rw [if_neg c10] at H; exact absurd H (by simp)

   rw [if_pos c10] at H; have c10b0 := decide_eq_true c10; clear c10; replace H := ia H; obtain ⟨c11b0, H⟩ := H; replace H := bo H; obtain ⟨⟨t219, t220⟩, A12, H⟩ := H
   try dsimp only at H
   have HC13 := As.mk H; clear H; obtain ⟨ad217, A217_3, c217_3, e217, p217, q217, x217a, x217b, x217c, x217d, HC217_3, HR217_3⟩ := bt_T62 HB.out HR0.out a1 od od; cases e217
   go_upto_region 5 with (first | ((with_reducible refine gate_dst (N := 5) rfl ?_); refine bxe 5 #[.int .i64 0, .int .i64 0, .string (⟨#[]⟩ : ByteArray), .slice none 0 0] 62 ?_; intro gb218 hg w14 BK218 hb; have GW218 := As.mk (gs w hg); replace HB := bs w hb; clear hb hg; obtain ⟨y15a, y15b, y15c, y15d, v15a, v15b, v15c, v15d⟩ := cl4 BK218.out) | ((with_reducible refine gate_callee (f := 113) rfl ?_); refine goL (some 32) Tryz.func113 #[.int .i64 ((rd_T62 l0 a1).f0)] ?_; (with_reducible refine (spec_l04Kids.calls kj2 ((rd_T62 l0 a1).f0) t219 t220 _ A12.out).mono ?_); rintro e w' ⟨rfl, ⟨nd, rfl⟩⟩; refine ⟨_, rfl, ?_⟩))
   (try simp only [pk])
   go_cut [57] (fun v57 wc => ∃ (kq : Nat) (x57_12 : Bool), v57 = .bool x57_12 ∧ As (spec_NodeOk.j1 kq l0 a1 x57_12 ((rd_T62 l0 a1).f0) ((rd_T62 l0 a1).f1) ((rd_T62 l0 a1).f2) ((rd_T62 l0 a1).f3) = some r) ∧ As (kq ≤ kj2) ∧ As (wc.heap[gb218]? = some (.cells #[.int .i64 ((rd_T62 l0 a1).f0), .int .i64 ((rd_T62 l0 a1).f1), .string ((rd_T62 l0 a1).f2), (.slice A217_3 ((rd_T62 l0 a1).f3).length c217_3)] 62 (0, 0))) ∧ As (Below w.heap.size w wc))
   case first =>
    have H := HC13.out; clear HC13; replace H := bo H; obtain ⟨t221, A16, H⟩ := H
    by_cases c17 : t221 = true
    rotate_left
    ·
     replace c17 := Bool.eq_false_iff.mpr c17; subst c17; rw [if_neg ft] at H; have H' := As.mk H; clear H; obtain ⟨y24a, y24b, y24c, y24d, v24a, v24b, v24c, v24d⟩ := cl4 BK218.out
     go_wp2_with (first | ((with_reducible refine gate_callee (f := 33) rfl ?_); refine goL (some 40) Tryz.func33 #[.int .i64 (((rd_T62 l0 a1).f3).length : Int), .int .i64 t219, .int .i64 t220] ?_; (with_reducible refine (spec_l01In.calls (((rd_T62 l0 a1).f3).length : Int) t219 t220 false _ A16.out).mono ?_); rintro e w' ⟨rfl, ⟨nd, rfl⟩⟩; refine ⟨_, rfl, ?_⟩))
     go_meet
     case rel => exact ⟨_, (true), (by first | rfl | (simp; done) | (simp [*]; done)), H', ⟨by have := HJ2.out; first | omega | exact Nat.le_refl _⟩, ⟨by exact pl (bp4 (bx BK218.out))⟩, ⟨be w⟩⟩
    subst c17; rw [if_pos rfl] at H; replace H := bo H; obtain ⟨t222, A18, H⟩ := H
    by_cases c19 : t222 = true
    rotate_left
    ·
     replace c19 := Bool.eq_false_iff.mpr c19; subst c19; rw [if_neg ft] at H; have H' := As.mk H; clear H; obtain ⟨y23a, y23b, y23c, y23d, v23a, v23b, v23c, v23d⟩ := cl4 BK218.out
     go_wp2_with (first | ((with_reducible refine gate_callee (f := 33) rfl ?_); refine goL (some 40) Tryz.func33 #[.int .i64 (((rd_T62 l0 a1).f3).length : Int), .int .i64 t219, .int .i64 t220] ?_; (with_reducible refine (spec_l01In.calls (((rd_T62 l0 a1).f3).length : Int) t219 t220 true _ A16.out).mono ?_); rintro e w' ⟨rfl, ⟨nd, rfl⟩⟩; refine ⟨_, rfl, ?_⟩) | (go_at_call 33; (with_reducible refine (spec_l01In.calls ((rd_T62 l0 a1).f1) 0 1000000000 false _ A18.out).mono ?_); rintro e w' ⟨rfl, ⟨nd, rfl⟩⟩))
     go_meet
     case rel => exact ⟨_, (true), (by first | rfl | (simp; done) | (simp [*]; done)), H', ⟨by have := HJ2.out; first | omega | exact Nat.le_refl _⟩, ⟨by exact pl (bp4 (bx BK218.out))⟩, ⟨be w⟩⟩
    subst c19; rw [if_pos rfl] at H
    by_cases c20 : ((rd_T62 l0 a1).f0) = 1
    ·
     rw [if_pos c20] at H; have c20b0 : (((rd_T62 l0 a1).f0) == 1) = true := beq_iff_eq.mpr c20; have c20b1 : (((rd_T62 l0 a1).f0) != 1) = false := bne_eq_false_iff_eq.mpr c20; clear c20
     (first | rw [c20b0] | (simp only [i64_w, i32_w]; rw [c20b0]) | skip)
     have H' := As.mk H; clear H; obtain ⟨y21a, y21b, y21c, y21d, v21a, v21b, v21c, v21d⟩ := cl4 BK218.out
     go_wp2_with (first | ((with_reducible refine gate_callee (f := 33) rfl ?_); refine goL (some 40) Tryz.func33 #[.int .i64 (((rd_T62 l0 a1).f3).length : Int), .int .i64 t219, .int .i64 t220] ?_; (with_reducible refine (spec_l01In.calls (((rd_T62 l0 a1).f3).length : Int) t219 t220 true _ A16.out).mono ?_); rintro e w' ⟨rfl, ⟨nd, rfl⟩⟩; refine ⟨_, rfl, ?_⟩) | (go_at_call 33; (with_reducible refine (spec_l01In.calls ((rd_T62 l0 a1).f1) 0 1000000000 true _ A18.out).mono ?_); rintro e w' ⟨rfl, ⟨nd, rfl⟩⟩))
     go_meet
     case rel => exact ⟨_, (false), (by first | rfl | (simp; done) | (simp [*]; done)), H', ⟨by have := HJ2.out; first | omega | exact Nat.le_refl _⟩, ⟨by exact pl (bp4 (bx BK218.out))⟩, ⟨be w⟩⟩
    rw [if_neg c20] at H; have c20b0 : (((rd_T62 l0 a1).f0) == 1) = false := beq_eq_false_iff_ne.mpr c20; have c20b1 : (((rd_T62 l0 a1).f0) != 1) = true := bne_iff_ne.mpr c20
    (first | rw [c20b0] | (simp only [i64_w, i32_w]; rw [c20b0]) | skip)
    have H' := As.mk H; clear H; obtain ⟨y22a, y22b, y22c, y22d, v22a, v22b, v22c, v22d⟩ := cl4 BK218.out
    go_wp2_with (first | ((with_reducible refine gate_callee (f := 33) rfl ?_); refine goL (some 40) Tryz.func33 #[.int .i64 (((rd_T62 l0 a1).f3).length : Int), .int .i64 t219, .int .i64 t220] ?_; (with_reducible refine (spec_l01In.calls (((rd_T62 l0 a1).f3).length : Int) t219 t220 true _ A16.out).mono ?_); rintro e w' ⟨rfl, ⟨nd, rfl⟩⟩; refine ⟨_, rfl, ?_⟩) | (go_at_call 33; (with_reducible refine (spec_l01In.calls ((rd_T62 l0 a1).f1) 0 1000000000 true _ A18.out).mono ?_); rintro e w' ⟨rfl, ⟨nd, rfl⟩⟩))
    go_meet
    case rel => exact ⟨_, ((((rd_T62 l0 a1).f1) != 0)), (by first | rfl | (simp; done) | (simp [*]; done)), H', ⟨by have := HJ2.out; first | omega | exact Nat.le_refl _⟩, ⟨by exact pl (bp4 (bx BK218.out))⟩, ⟨be w⟩⟩
   case rest =>
    clear HC13; (try clear c9); (try clear c10); (try clear c10b0); (try clear c11); (try clear c11b0); (try clear y15a); (try clear y15b); (try clear y15c); (try clear y15d); (try clear v15a); (try clear v15b); (try clear v15c); (try clear v15d); (try clear x217a); (try clear x217b); (try clear x217c); (try clear x217d); (try clear p217); (try clear q217); obtain ⟨kq, x57_12, rfl, HA, HJ12, BK218, HB⟩ := hcut
    cases kq with
    | zero => exact absurd HA.out (by simp [spec_NodeOk.j1])
    | succ kj12 =>
     have H := HA.out; clear HA
     simp only [spec_NodeOk.j1] at H
     by_cases c25 : x57_12 = true
     ·
      subst c25; rw [if_pos rfl] at H; obtain rfl := sj H
      go_wp2
      go_ret
      exact ⟨ez, be w⟩
     replace c25 := Bool.eq_false_iff.mpr c25; subst c25; rw [if_neg ft] at H; have HC26 := As.mk H; clear H
     go_upto_region 7 with (fail)
     go_cut [75] (fun v75 wc => ∃ (kq : Nat) (x75_25 : Bool), v75 = .bool x75_25 ∧ As (spec_NodeOk.j2 kq l0 a1 x75_25 ((rd_T62 l0 a1).f0) ((rd_T62 l0 a1).f1) ((rd_T62 l0 a1).f2) ((rd_T62 l0 a1).f3) = some r) ∧ As (kq ≤ kj12) ∧ As (wc.heap[gb218]? = some (.cells #[.int .i64 ((rd_T62 l0 a1).f0), .int .i64 ((rd_T62 l0 a1).f1), .string ((rd_T62 l0 a1).f2), (.slice A217_3 ((rd_T62 l0 a1).f3).length c217_3)] 62 (0, 0))) ∧ As (Below w.heap.size w wc))
     case first =>
      have H := HC26.out; clear HC26; replace H := bo H; obtain ⟨t223, A27, H⟩ := H
      by_cases c28 : (t223 != (((rd_T62 l0 a1).f2).toList != ([] : List UInt8))) = true
      ·
       rw [if_pos c28] at H; have c28b0 : (t223 != (((rd_T62 l0 a1).f2).toList != ([] : List UInt8))) = true := c28; have c28b5 : (t223 == !(((rd_T62 l0 a1).f2).toList).isEmpty) = false := bne_ne_nil c28b0; (try (have c28b1 : decide (t223 = (((rd_T62 l0 a1).f2).toList != ([] : List UInt8))) = false := by simpa using c28)); (try (have c28b2 : (t223 == (((rd_T62 l0 a1).f2).toList != ([] : List UInt8))) = false := by simpa using c28)); (try (have c28b3 : ¬ (t223 = (((rd_T62 l0 a1).f2).toList != ([] : List UInt8))) := by simpa using c28)); clear c28
       (first | rw [c28b0] | (simp only [i64_w, i32_w]; rw [c28b0]) | rw [c28b2] | skip)
       have H' := As.mk H; clear H
       try go_wp2
       replace BK218 := As.mk (blk_drew BK218.out); replace HB := As.mk (below_drew1 HB.out)
       refine start_ (n := 18) (S := _) (ds := []) #[O,O,O,O,O,O,O,O,O,O,O,O,O,O,O,O,O,O] (by kernel_rfl) rfl rfl (bf BK218.out) (fun hHeld => ?_); refine with_tabW spec_NodeOk.tab7 spec_NodeOk.bits7 (fun HT_ HW_ => ?_)
       generalize wc.drew = w29 at BK218 HB hHeld ⊢
       refine pq 0 58 HT_ _ _ ?_; refine pq 3 61 HT_ _ _ ?_; refine tq_b4 1 59 HT_ HW_.out hHeld _ _ ?_; refine tq_b4 4 62 HT_ HW_.out hHeld _ _ ?_; refine pq 5 63 HT_ _ _ ?_; refine on 2 (some 60) HT_ (fun K hK => ?_); refine goS Tryz.func114 #[.int .i64 ((rd_T62 l0 a1).f0)] ?_
       with_reducible refine (spec_l04Named.calls ((rd_T62 l0 a1).f0) t223 _ A27.out).mono ?_
       rintro e w' ⟨rfl, ⟨nd, rfl⟩⟩
       refine ⟨_, rfl, ?_⟩
       refine hK.out _ _ (bf BK218.out) (fun hHeld => ?_)
       clear hK K; refine nm _ ?_; refine pq 6 64 HT_ _ _ ?_; refine pq 7 65 HT_ _ _ ?_; refine pu 8 66 HT_ _ ?_; refine pu 9 67 HT_ _ ?_; refine pu 10 68 HT_ _ ?_; refine pu 11 69 HT_ _ ?_; refine pu 12 70 HT_ _ ?_; refine pu 13 71 HT_ _ ?_; refine pu 14 72 HT_ _ ?_; refine pu 15 73 HT_ _ ?_; refine pu 16 74 HT_ _ ?_; refine pq 17 75 HT_ _ _ ?_
       refine done_ (done_of HT_.out (by kernel_rfl)) ?_
       try go_wp2
       go_meet
       case rel => exact ⟨_, (true), (by first | rfl | (simp; done) | (simp [*]; done)), H', ⟨by have := HJ2.out; have := HJ12.out; first | omega | exact Nat.le_refl _⟩, ⟨bx BK218.out⟩, ⟨be w⟩⟩
      rw [if_neg c28] at H
      have c28b0 : (t223 != (((rd_T62 l0 a1).f2).toList != ([] : List UInt8))) = false := by simpa using c28
      have c28b5 : (t223 == !(((rd_T62 l0 a1).f2).toList).isEmpty) = true := bne_ne_nil c28b0; (try (have c28b1 : decide (t223 = (((rd_T62 l0 a1).f2).toList != ([] : List UInt8))) = true := by simpa using c28)); (try (have c28b2 : (t223 == (((rd_T62 l0 a1).f2).toList != ([] : List UInt8))) = true := by simpa using c28)); clear c28
      (first | rw [c28b0] | (simp only [i64_w, i32_w]; rw [c28b0]) | rw [c28b2] | skip)
      by_cases c30 : ((rd_T62 l0 a1).f2).toList = ([] : List UInt8)
      ·
       rw [if_pos c30] at H; have c30b0 : (((rd_T62 l0 a1).f2).toList == ([] : List UInt8)) = true := beq_iff_eq.mpr c30; have c30b6 : t223 = false := is_nil_true c28b5 c30b0; have c30b5 : (((rd_T62 l0 a1).f2).toList).isEmpty = true := nil_is_true c30b0; clear c28b5; have c30b1 : (((rd_T62 l0 a1).f2).toList != ([] : List UInt8)) = false := bne_eq_false_iff_eq.mpr c30; clear c30; have H' := As.mk H; clear H
       try go_wp2
       replace BK218 := As.mk (blk_drew BK218.out); replace HB := As.mk (below_drew1 HB.out)
       refine start_ (n := 18) (S := _) (ds := []) #[O,O,O,O,O,O,O,O,O,O,O,O,O,O,O,O,O,O] (by kernel_rfl) rfl rfl (bf BK218.out) (fun hHeld => ?_); refine with_tabW spec_NodeOk.tab7 spec_NodeOk.bits7 (fun HT_ HW_ => ?_)
       generalize wc.drew = w31 at BK218 HB hHeld ⊢
       refine pq 0 58 HT_ _ _ ?_; refine pq 3 61 HT_ _ _ ?_; refine tq_b4 1 59 HT_ HW_.out hHeld _ _ ?_; refine tq_b4 4 62 HT_ HW_.out hHeld _ _ ?_; refine pq 5 63 HT_ _ _ ?_; refine on 2 (some 60) HT_ (fun K hK => ?_); refine goS Tryz.func114 #[.int .i64 ((rd_T62 l0 a1).f0)] ?_
       with_reducible refine (spec_l04Named.calls ((rd_T62 l0 a1).f0) t223 _ A27.out).mono ?_
       rintro e w' ⟨rfl, ⟨nd, rfl⟩⟩
       refine ⟨_, rfl, ?_⟩
       refine hK.out _ _ (bf BK218.out) (fun hHeld => ?_)
       clear hK K; refine nm _ ?_; refine pq 6 64 HT_ _ _ ?_; refine pq 7 65 HT_ _ _ ?_; refine pq 8 66 HT_ _ _ ?_; refine tq_b4 9 67 HT_ HW_.out hHeld _ _ ?_; refine pq 10 68 HT_ _ _ ?_; refine pq 11 69 HT_ _ _ ?_; refine pu 12 70 HT_ _ ?_; refine pu 13 71 HT_ _ ?_; refine pu 14 72 HT_ _ ?_; refine pu 15 73 HT_ _ ?_; refine pq 16 74 HT_ _ _ ?_; refine pq 17 75 HT_ _ _ ?_
       refine done_ (done_of HT_.out (by kernel_rfl)) ?_
       try go_wp2
       go_meet
       case rel => exact ⟨_, (false), (by first | rfl | (simp; done) | (simp [*]; done)), H', ⟨by have := HJ2.out; have := HJ12.out; first | omega | exact Nat.le_refl _⟩, ⟨bx BK218.out⟩, ⟨be w⟩⟩
      rw [if_neg c30] at H; have c30b0 : (((rd_T62 l0 a1).f2).toList == ([] : List UInt8)) = false := beq_eq_false_iff_ne.mpr c30; have c30b6 : t223 = true := is_nil_false c28b5 c30b0; have c30b5 : (((rd_T62 l0 a1).f2).toList).isEmpty = false := nil_is_false c30b0; clear c28b5; have c30b1 : (((rd_T62 l0 a1).f2).toList != ([] : List UInt8)) = true := bne_iff_ne.mpr c30; replace H := bo H; obtain ⟨t224, A32, H⟩ := H; have H' := As.mk H; clear H
      try go_wp2
      replace BK218 := As.mk (blk_drew BK218.out); replace HB := As.mk (below_drew1 HB.out)
      refine start_ (n := 18) (S := _) (ds := []) #[O,O,O,O,O,O,O,O,O,O,O,O,O,O,O,O,O,O] (by kernel_rfl) rfl rfl (bf BK218.out) (fun hHeld => ?_); refine with_tabW spec_NodeOk.tab7 spec_NodeOk.bits7 (fun HT_ HW_ => ?_)
      generalize wc.drew = w33 at BK218 HB hHeld ⊢
      refine pq 0 58 HT_ _ _ ?_; refine pq 3 61 HT_ _ _ ?_; refine tq_b4 1 59 HT_ HW_.out hHeld _ _ ?_; refine tq_b4 4 62 HT_ HW_.out hHeld _ _ ?_; refine pq 5 63 HT_ _ _ ?_; refine on 2 (some 60) HT_ (fun K hK => ?_); refine goS Tryz.func114 #[.int .i64 ((rd_T62 l0 a1).f0)] ?_
      with_reducible refine (spec_l04Named.calls ((rd_T62 l0 a1).f0) t223 _ A27.out).mono ?_
      rintro e w' ⟨rfl, ⟨nd, rfl⟩⟩
      refine ⟨_, rfl, ?_⟩
      refine hK.out _ _ (bf BK218.out) (fun hHeld => ?_)
      clear hK K; refine nm _ ?_; refine pq 6 64 HT_ _ _ ?_; refine pq 7 65 HT_ _ _ ?_; refine pq 8 66 HT_ _ _ ?_; refine tq_b4 9 67 HT_ HW_.out hHeld _ _ ?_; refine pq 10 68 HT_ _ _ ?_; refine pq 11 69 HT_ _ _ ?_; refine pq 12 70 HT_ _ _ ?_; refine tq_b4 13 71 HT_ HW_.out hHeld _ _ ?_; refine on 14 (some 72) HT_ (fun K hK => ?_); refine goS Tryz.func103 #[.string ((rd_T62 l0 a1).f2)] ?_
      with_reducible refine (spec_NameOk.calls kj12 ((rd_T62 l0 a1).f2) t224 _ A32.out).mono ?_
      rintro e w34 ⟨rfl, hb⟩
      refine ⟨_, rfl, ?_⟩
      replace BK218 := bb BK218 hb; replace HB := bs w hb; (try clear hb); (try clear hb2); (try clear hk); (try clear hi)
      refine hK.out _ _ (bf BK218.out) (fun hHeld => ?_)
      clear hK K; refine nm _ ?_; refine pq 15 73 HT_ _ _ ?_; refine pq 16 74 HT_ _ _ ?_; refine pq 17 75 HT_ _ _ ?_
      refine done_ (done_of HT_.out (by kernel_rfl)) ?_
      try go_wp2
      go_meet
      case rel => exact ⟨_, (!t224), (by first | rfl | (simp; done) | (simp [*]; done)), H', ⟨by have := HJ2.out; have := HJ12.out; first | omega | exact Nat.le_refl _⟩, ⟨bx BK218.out⟩, ⟨be w⟩⟩
     case rest =>
      clear HC26; (try clear c9); (try clear c10); (try clear c10b0); (try clear c11); (try clear c11b0); (try clear c25); (try clear y15a); (try clear y15b); (try clear y15c); (try clear y15d); (try clear v15a); (try clear v15b); (try clear v15c); (try clear v15d); (try clear x217a); (try clear x217b); (try clear x217c); (try clear x217d); (try clear p217); (try clear q217); obtain ⟨kq, x75_25, rfl, HA, HJ25, BK218, HB⟩ := hcut
      cases kq with
      | zero => exact absurd HA.out (by simp [spec_NodeOk.j2])
      | succ kj25 =>
       have H := HA.out; clear HA
       simp only [spec_NodeOk.j2] at H
       by_cases c35 : x75_25 = true
       ·
        subst c35; rw [if_pos rfl] at H; obtain rfl := sj H
        go_wp2
        go_ret
        exact ⟨ez, be w⟩
       replace c35 := Bool.eq_false_iff.mpr c35; subst c35; rw [if_neg ft] at H; have H' := As.mk H; clear H
       go_wp2
       go_loopg [8] kj25 (fun kq v8 w' => ∃ (x8_4 : Int), v8 = .int .i64 x8_4 ∧ As (spec_NodeOk.l0 kq l0 a1 x8_4 ((rd_T62 l0 a1).f0) ((rd_T62 l0 a1).f1) ((rd_T62 l0 a1).f2) ((rd_T62 l0 a1).f3) = some r) ∧ As (kq ≤ kj25) ∧ As (w'.heap[gb218]? = some (.cells #[.int .i64 ((rd_T62 l0 a1).f0), .int .i64 ((rd_T62 l0 a1).f1), .string ((rd_T62 l0 a1).f2), (.slice A217_3 ((rd_T62 l0 a1).f3).length c217_3)] 62 (0, 0))) ∧ As (Below w.heap.size w w'))
       case atStart => exact ⟨(0), (by first | rfl | (simp; done) | (simp [*]; done)), H', ⟨Nat.le_refl _⟩, ⟨bx BK218.out⟩, ⟨be w⟩⟩
       case round =>
        clear H'; (try clear c9); (try clear c10); (try clear c10b0); (try clear c11); (try clear c11b0); (try clear c25); (try clear c35); (try clear y15a); (try clear y15b); (try clear y15c); (try clear y15d); (try clear v15a); (try clear v15b); (try clear v15c); (try clear v15d); (try clear x217a); (try clear x217b); (try clear x217c); (try clear x217d); (try clear p217); (try clear q217); obtain ⟨x8_4, rfl, HA, HK4, BK218, HB⟩ := hrel
        cases gk with
        | zero => exact absurd HA.out (by simp [spec_NodeOk.l0])
        | succ k4 =>
         have H := HA.out; clear HA
         simp only [spec_NodeOk.l0] at H
         by_cases c36 : x8_4 < (((rd_T62 l0 a1).f3).length : Int)
         rotate_left
         ·
          rw [if_neg c36] at H; have c36b0 := decide_eq_false c36; clear c36; obtain rfl := sj H; obtain ⟨y56a, y56b, y56c, y56d, v56a, v56b, v56c, v56d⟩ := cl4 BK218.out
          go_wp2
          go_ret
          exact ⟨ez, be w⟩
         rw [if_pos c36] at H; have c36b0 := decide_eq_true c36; clear c36; have HC37 := As.mk H; clear H; obtain ⟨y38a, y38b, y38c, y38d, v38a, v38b, v38c, v38d⟩ := cl4 BK218.out
         go_upto_region 12 with (fail)
         go_cut [107] (fun v107 wc => ∃ (kq : Nat) (x107_36 : Bool), v107 = .bool x107_36 ∧ As (spec_NodeOk.j4 kq l0 a1 x8_4 x107_36 ((rd_T62 l0 a1).f0) ((rd_T62 l0 a1).f1) ((rd_T62 l0 a1).f2) ((rd_T62 l0 a1).f3) = some r) ∧ As (kq ≤ k4) ∧ As (wc.heap[gb218]? = some (.cells #[.int .i64 ((rd_T62 l0 a1).f0), .int .i64 ((rd_T62 l0 a1).f1), .string ((rd_T62 l0 a1).f2), (.slice A217_3 ((rd_T62 l0 a1).f3).length c217_3)] 62 (0, 0))) ∧ As (Below w.heap.size w wc))
         case first =>
          have H := HC37.out; clear HC37; replace H := ia H; obtain ⟨c39b0, H⟩ := H
          (first | rw [c39b0] | (simp only [i64_w, i32_w]; rw [c39b0]) | skip)
          replace H := bo H; obtain ⟨t226, A40, H⟩ := H
          by_cases c41 : t226 = true
          rotate_left
          ·
           replace c41 := Bool.eq_false_iff.mpr c41; subst c41; rw [if_neg ft] at H; have H' := As.mk H; clear H
           try go_wp2
           replace BK218 := As.mk (blk_drew BK218.out); replace HB := As.mk (below_drew1 HB.out); have p225 : 0 ≤ (x8_4 : Int) := od; have q225 : x8_4 < (((rd_T62 l0 a1).f3).length : Int) := od; obtain ⟨ad225, e225, x225a⟩ := Kd.at_int HR217_3.out x8_4 p225 q225; have hw225_0 := x225a; cases e225; replace x225a := ce HB.out x225a; replace p225 := eq_true p225; replace q225 := eq_true q225
           refine start_ (n := 25) (S := _) (ds := []) #[O,O,O,O,O,O,O,O,O,O,O,O,O,O,O,O,O,O,O,O,O,O,O,O,O] (by kernel_rfl) rfl rfl (ba (bf BK218.out) (cf hw225_0)) (fun hHeld => ?_); refine with_tabW spec_NodeOk.tab12 spec_NodeOk.bits12 (fun HT_ HW_ => ?_)
           generalize wr.drew = w46 at BK218 HB x225a hHeld ⊢
           refine pq 0 83 HT_ _ _ ?_; refine pq 2 85 HT_ _ _ ?_; refine pq 5 88 HT_ _ _ ?_; refine pq 6 89 HT_ _ _ ?_; refine tq_b4c1 1 84 HT_ HW_.out hHeld _ _ ?_; refine pq 3 86 HT_ _ _ ?_; refine tq_b4c1 4 87 HT_ HW_.out hHeld _ _ ?_; refine on 7 (some 90) HT_ (fun K hK => ?_); refine goS Tryz.func33 #[.int .i64 (rd ((rd_T62 l0 a1).f3) x8_4), .int .i64 0, .int .i64 (wrap64 (a1 - 1))] ?_
           with_reducible refine (spec_l01In.calls (rd ((rd_T62 l0 a1).f3) x8_4) 0 (wrap64 (a1 - 1)) false _ A40.out).mono ?_
           rintro e w' ⟨rfl, ⟨nd, rfl⟩⟩
           refine ⟨_, rfl, ?_⟩
           refine hK.out _ _ (ba (bf BK218.out) (cf hw225_0)) (fun hHeld => ?_)
           clear hK K; refine nm _ ?_; refine pq 8 91 HT_ _ _ ?_; refine pq 9 92 HT_ _ _ ?_; refine pu 10 93 HT_ _ ?_; refine pu 11 94 HT_ _ ?_; refine pu 12 95 HT_ _ ?_; refine pu 13 96 HT_ _ ?_; refine pu 14 97 HT_ _ ?_; refine pu 15 98 HT_ _ ?_; refine pu 16 99 HT_ _ ?_; refine pu 17 100 HT_ _ ?_; refine pu 18 101 HT_ _ ?_; refine pu 19 102 HT_ _ ?_; refine pu 20 103 HT_ _ ?_; refine pu 21 104 HT_ _ ?_; refine pu 22 105 HT_ _ ?_; refine pu 23 106 HT_ _ ?_; refine pq 24 107 HT_ _ _ ?_
           refine done_ (done_of HT_.out (by kernel_rfl)) ?_
           try go_wp2
           go_meet
           case rel => exact ⟨_, (true), (by first | rfl | (simp; done) | (simp [*]; done)), H', ⟨by have := HJ2.out; have := HJ12.out; have := HJ25.out; have := HK4.out; first | omega | exact Nat.le_refl _⟩, ⟨bx BK218.out⟩, ⟨be w⟩⟩
          subst c41; rw [if_pos rfl] at H; replace H := ia H; obtain ⟨c42b0, H⟩ := H; replace H := ia H; obtain ⟨c43b0, H⟩ := H; replace H := bo H; obtain ⟨t229, A44, H⟩ := H; have H' := As.mk H; clear H
          try go_wp2
          replace BK218 := As.mk (blk_drew BK218.out); replace HB := As.mk (below_drew1 HB.out); have p225 : 0 ≤ (x8_4 : Int) := od; have q225 : x8_4 < (((rd_T62 l0 a1).f3).length : Int) := od; obtain ⟨ad225, e225, x225a⟩ := Kd.at_int HR217_3.out x8_4 p225 q225; have hw225_0 := x225a; cases e225; replace x225a := ce HB.out x225a; replace p225 := eq_true p225; replace q225 := eq_true q225; have p227 : 0 ≤ (x8_4 : Int) := od; have q227 : x8_4 < (((rd_T62 l0 a1).f3).length : Int) := od; obtain ⟨ad227, e227, x227a⟩ := Kd.at_int HR217_3.out x8_4 p227 q227; have hw227_0 := x227a; obtain rfl : ad225 = ad227 := (by injection e227); replace x227a := ce HB.out x227a; replace p227 := eq_true p227; replace q227 := eq_true q227; have p228 : 0 ≤ ((rd ((rd_T62 l0 a1).f3) x8_4) : Int) := od; have q228 : (rd ((rd_T62 l0 a1).f3) x8_4) < (l0.length : Int) := od; obtain ⟨ad228, A228_3, c228_3, e228, x228a, x228b, x228c, x228d, hl228_3, hi228_3⟩ := at_T62 HR0.out (rd ((rd_T62 l0 a1).f3) x8_4) p228 q228; have hw228_3 := x228d; have hw228_2 := x228c; have hw228_1 := x228b; have hw228_0 := x228a; obtain rfl : ad217 = ad228 := (by injection e228); replace x228a := ce HB.out x228a; replace x228b := ce HB.out x228b; replace x228c := ce HB.out x228c; replace x228d := ce HB.out x228d; have HR228_3 := As.mk hi228_3; have HC228_3 := As.mk hl228_3; clear hi228_3 hl228_3; replace p228 := eq_true p228; replace q228 := eq_true q228
          refine start_ (n := 25) (S := _) (ds := []) #[O,O,O,O,O,O,O,O,O,O,O,O,O,O,O,O,O,O,O,O,O,O,O,O,O] (by kernel_rfl) rfl rfl (ba (bf BK218.out) (ba (cf hw225_0) (ba (cf hw227_0) (ba (cf hw228_0) (ba (cf hw228_1) (ba (cf hw228_2) (cf hw228_3))))))) (fun hHeld => ?_); refine with_tabW spec_NodeOk.tab12 spec_NodeOk.bits12 (fun HT_ HW_ => ?_)
          generalize wr.drew = w45 at BK218 HB HR228_3 x225a x227a x228a x228b x228c x228d hHeld ⊢
          refine pq 0 83 HT_ _ _ ?_; refine pq 2 85 HT_ _ _ ?_; refine pq 5 88 HT_ _ _ ?_; refine pq 6 89 HT_ _ _ ?_; refine tq_b4c1c1c1c1c1c1 1 84 HT_ HW_.out hHeld _ _ ?_; refine pq 3 86 HT_ _ _ ?_; refine tq_b4c1c1c1c1c1c1 4 87 HT_ HW_.out hHeld _ _ ?_; refine on 7 (some 90) HT_ (fun K hK => ?_); refine goS Tryz.func33 #[.int .i64 (rd ((rd_T62 l0 a1).f3) x8_4), .int .i64 0, .int .i64 (wrap64 (a1 - 1))] ?_
          with_reducible refine (spec_l01In.calls (rd ((rd_T62 l0 a1).f3) x8_4) 0 (wrap64 (a1 - 1)) true _ A40.out).mono ?_
          rintro e w' ⟨rfl, ⟨nd, rfl⟩⟩
          refine ⟨_, rfl, ?_⟩
          refine hK.out _ _ (ba (bf BK218.out) (ba (cf hw225_0) (ba (cf hw227_0) (ba (cf hw228_0) (ba (cf hw228_1) (ba (cf hw228_2) (cf hw228_3))))))) (fun hHeld => ?_)
          clear hK K; refine nm _ ?_; refine pq 8 91 HT_ _ _ ?_; refine pq 9 92 HT_ _ _ ?_; refine pq 10 93 HT_ _ _ ?_; refine pq 12 95 HT_ _ _ ?_; refine pq 13 96 HT_ _ _ ?_; refine pq 14 97 HT_ _ _ ?_; refine pq 16 99 HT_ _ _ ?_; refine tq_b4c1c1c1c1c1c1 11 94 HT_ HW_.out hHeld _ _ ?_; refine tq_b4c1c1c1c1c1c1 15 98 HT_ HW_.out hHeld _ _ ?_; refine pq 17 100 HT_ _ _ ?_; refine tq_b4c1c1c1c1c1c1 18 101 HT_ HW_.out hHeld _ _ ?_; refine pq 19 102 HT_ _ _ ?_; refine pq 20 103 HT_ _ _ ?_; refine tq_b4c1c1c1c1c1c1 21 104 HT_ HW_.out hHeld _ _ ?_; refine on 22 (some 105) HT_ (fun K hK => ?_); refine goS Tryz.func115 #[.int .i64 ((rd_T62 l0 a1).f0), .int .i64 x8_4, .int .i64 ((rd_T62 l0 (rd ((rd_T62 l0 a1).f3) x8_4)).f0)] ?_
          with_reducible refine (spec_l04Fits.calls k4 ((rd_T62 l0 a1).f0) x8_4 ((rd_T62 l0 (rd ((rd_T62 l0 a1).f3) x8_4)).f0) t229 _ A44.out).mono ?_
          rintro e w' ⟨rfl, ⟨nd, rfl⟩⟩
          refine ⟨_, rfl, ?_⟩
          refine hK.out _ _ (ba (bf BK218.out) (ba (cf hw225_0) (ba (cf hw227_0) (ba (cf hw228_0) (ba (cf hw228_1) (ba (cf hw228_2) (cf hw228_3))))))) (fun hHeld => ?_)
          clear hK K; refine nm _ ?_; refine pq 23 106 HT_ _ _ ?_; refine pq 24 107 HT_ _ _ ?_
          refine done_ (done_of HT_.out (by kernel_rfl)) ?_
          try go_wp2
          go_meet
          case rel => exact ⟨_, (!t229), (by first | rfl | (simp; done) | (simp [*]; done)), H', ⟨by have := HJ2.out; have := HJ12.out; have := HJ25.out; have := HK4.out; first | omega | exact Nat.le_refl _⟩, ⟨bx BK218.out⟩, ⟨be w⟩⟩
         case rest =>
          clear HC37; (try clear c9); (try clear c10); (try clear c10b0); (try clear c11); (try clear c11b0); (try clear c25); (try clear c35); (try clear c36); (try clear c36b0); (try clear y15a); (try clear y15b); (try clear y15c); (try clear y15d); (try clear y38a); (try clear y38b); (try clear y38c); (try clear y38d); (try clear v15a); (try clear v15b); (try clear v15c); (try clear v15d); (try clear v38a); (try clear v38b); (try clear v38c); (try clear v38d); (try clear x217a); (try clear x217b); (try clear x217c); (try clear x217d); (try clear p217); (try clear q217); obtain ⟨kq, x107_36, rfl, HA, HJ36, BK218, HB⟩ := hcut
          cases kq with
          | zero => exact absurd HA.out (by simp [spec_NodeOk.j4])
          | succ kj36 =>
           have H := HA.out; clear HA
           simp only [spec_NodeOk.j4] at H
           by_cases c47 : x107_36 = true
           ·
            subst c47; rw [if_pos rfl] at H; obtain rfl := sj H
            go_wp2
            go_ret
            exact ⟨ez, be w⟩
           replace c47 := Bool.eq_false_iff.mpr c47; subst c47; rw [if_neg ft] at H; have H' := As.mk H; clear H
           go_wp2
           go_loopg [9] kj36 (fun kq v9 w' => ∃ (x9_6 : Int), v9 = .int .i64 x9_6 ∧ As (spec_NodeOk.l1 kq l0 a1 x8_4 x9_6 ((rd_T62 l0 a1).f0) ((rd_T62 l0 a1).f1) ((rd_T62 l0 a1).f2) ((rd_T62 l0 a1).f3) = some r) ∧ As (kq ≤ kj36) ∧ As (w'.heap[gb218]? = some (.cells #[.int .i64 ((rd_T62 l0 a1).f0), .int .i64 ((rd_T62 l0 a1).f1), .string ((rd_T62 l0 a1).f2), (.slice A217_3 ((rd_T62 l0 a1).f3).length c217_3)] 62 (0, 0))) ∧ As (Below w.heap.size w w'))
           case atStart => exact ⟨(0), (by first | rfl | (simp; done) | (simp [*]; done)), H', ⟨Nat.le_refl _⟩, ⟨bx BK218.out⟩, ⟨be w⟩⟩
           case round =>
            clear H'; (try clear c9); (try clear c10); (try clear c10b0); (try clear c11); (try clear c11b0); (try clear c25); (try clear c35); (try clear c36); (try clear c36b0); (try clear c47); (try clear y15a); (try clear y15b); (try clear y15c); (try clear y15d); (try clear y38a); (try clear y38b); (try clear y38c); (try clear y38d); (try clear v15a); (try clear v15b); (try clear v15c); (try clear v15d); (try clear v38a); (try clear v38b); (try clear v38c); (try clear v38d); (try clear x217a); (try clear x217b); (try clear x217c); (try clear x217d); (try clear p217); (try clear q217); obtain ⟨x9_6, rfl, HA, HK6, BK218, HB⟩ := hrel
            cases gk with
            | zero => exact absurd HA.out (by simp [spec_NodeOk.l1])
            | succ k6 =>
             have H := HA.out; clear HA
             simp only [spec_NodeOk.l1] at H
             by_cases c48 : x9_6 < x8_4
             rotate_left
             ·
              rw [if_neg c48] at H; have c48b0 := decide_eq_false c48; clear c48; have H' := As.mk H; clear H
              go_wp2
              go_roundg k6
              case measure => have := HJ2.out; have := HJ12.out; have := HJ25.out; have := HK4.out; have := HJ36.out; have := HK6.out; omega
              case rel => exact ⟨(wrap64 (x8_4 + 1)), (by first | rfl | (simp; done) | (simp [*]; done)), H', ⟨by have := HJ2.out; have := HJ12.out; have := HJ25.out; have := HK4.out; have := HJ36.out; have := HK6.out; omega⟩, ⟨bx BK218.out⟩, ⟨be w⟩⟩
             rw [if_pos c48] at H; have c48b0 := decide_eq_true c48; clear c48; replace H := ia H; obtain ⟨c49b0, H⟩ := H; replace H := ia H; obtain ⟨c50b0, H⟩ := H; replace H := ia H; obtain ⟨c51b0, H⟩ := H; replace H := ia H; obtain ⟨c52b0, H⟩ := H
             by_cases c53 : (rd ((rd_T62 l0 a1).f3) x8_4) = (rd ((rd_T62 l0 a1).f3) x9_6)
             ·
              rw [if_pos c53] at H; have c53b0 : ((rd ((rd_T62 l0 a1).f3) x8_4) == (rd ((rd_T62 l0 a1).f3) x9_6)) = true := beq_iff_eq.mpr c53; have c53b1 : ((rd ((rd_T62 l0 a1).f3) x8_4) != (rd ((rd_T62 l0 a1).f3) x9_6)) = false := bne_eq_false_iff_eq.mpr c53; clear c53; obtain rfl := sj H
              try go_wp2
              replace BK218 := As.mk (blk_drew BK218.out); replace HB := As.mk (below_drew1 HB.out); have p230 : 0 ≤ (x8_4 : Int) := od; have q230 : x8_4 < (((rd_T62 l0 a1).f3).length : Int) := od; obtain ⟨ad230, e230, x230a⟩ := Kd.at_int HR217_3.out x8_4 p230 q230; have hw230_0 := x230a; cases e230; replace x230a := ce HB.out x230a; replace p230 := eq_true p230; replace q230 := eq_true q230; have p231 : 0 ≤ (x9_6 : Int) := od; have q231 : x9_6 < (((rd_T62 l0 a1).f3).length : Int) := od; obtain ⟨ad231, e231, x231a⟩ := Kd.at_int HR217_3.out x9_6 p231 q231; have hw231_0 := x231a; obtain rfl : ad230 = ad231 := (by injection e231); replace x231a := ce HB.out x231a; replace p231 := eq_true p231; replace q231 := eq_true q231
              refine start_ (n := 11) (S := _) (ds := []) #[O,O,O,O,O,O,O,O,O,O,O] (by kernel_rfl) rfl rfl (ba (bf BK218.out) (ba (cf hw230_0) (cf hw231_0))) (fun hHeld => ?_); refine with_tabW spec_NodeOk.tab17 spec_NodeOk.bits17 (fun HT_ HW_ => ?_)
              generalize wr.drew = w54 at BK218 HB x230a x231a hHeld ⊢
              refine pq 0 113 HT_ _ _ ?_; refine pq 2 115 HT_ _ _ ?_; refine pq 5 118 HT_ _ _ ?_; refine pq 7 120 HT_ _ _ ?_; refine tq_b4c1c1 1 114 HT_ HW_.out hHeld _ _ ?_; refine pq 3 116 HT_ _ _ ?_; refine tq_b4c1c1 4 117 HT_ HW_.out hHeld _ _ ?_; refine tq_b4c1c1 6 119 HT_ HW_.out hHeld _ _ ?_; refine pq 8 121 HT_ _ _ ?_; refine tq_b4c1c1 9 122 HT_ HW_.out hHeld _ _ ?_; refine pq 10 123 HT_ _ _ ?_
              refine done_ (done_of HT_.out (by kernel_rfl)) ?_
              try go_wp2
              go_ret
              exact ⟨ez, be w⟩
             rw [if_neg c53] at H; have c53b0 : ((rd ((rd_T62 l0 a1).f3) x8_4) == (rd ((rd_T62 l0 a1).f3) x9_6)) = false := beq_eq_false_iff_ne.mpr c53; have c53b1 : ((rd ((rd_T62 l0 a1).f3) x8_4) != (rd ((rd_T62 l0 a1).f3) x9_6)) = true := bne_iff_ne.mpr c53; have H' := As.mk H; clear H
             try go_wp2
             replace BK218 := As.mk (blk_drew BK218.out); replace HB := As.mk (below_drew1 HB.out); have p230 : 0 ≤ (x8_4 : Int) := od; have q230 : x8_4 < (((rd_T62 l0 a1).f3).length : Int) := od; obtain ⟨ad230, e230, x230a⟩ := Kd.at_int HR217_3.out x8_4 p230 q230; have hw230_0 := x230a; cases e230; replace x230a := ce HB.out x230a; replace p230 := eq_true p230; replace q230 := eq_true q230; have p231 : 0 ≤ (x9_6 : Int) := od; have q231 : x9_6 < (((rd_T62 l0 a1).f3).length : Int) := od; obtain ⟨ad231, e231, x231a⟩ := Kd.at_int HR217_3.out x9_6 p231 q231; have hw231_0 := x231a; obtain rfl : ad230 = ad231 := (by injection e231); replace x231a := ce HB.out x231a; replace p231 := eq_true p231; replace q231 := eq_true q231
             refine start_ (n := 11) (S := _) (ds := []) #[O,O,O,O,O,O,O,O,O,O,O] (by kernel_rfl) rfl rfl (ba (bf BK218.out) (ba (cf hw230_0) (cf hw231_0))) (fun hHeld => ?_); refine with_tabW spec_NodeOk.tab17 spec_NodeOk.bits17 (fun HT_ HW_ => ?_)
             generalize wr.drew = w55 at BK218 HB x230a x231a hHeld ⊢
             refine pq 0 113 HT_ _ _ ?_; refine pq 2 115 HT_ _ _ ?_; refine pq 5 118 HT_ _ _ ?_; refine pq 7 120 HT_ _ _ ?_; refine tq_b4c1c1 1 114 HT_ HW_.out hHeld _ _ ?_; refine pq 3 116 HT_ _ _ ?_; refine tq_b4c1c1 4 117 HT_ HW_.out hHeld _ _ ?_; refine tq_b4c1c1 6 119 HT_ HW_.out hHeld _ _ ?_; refine pq 8 121 HT_ _ _ ?_; refine tq_b4c1c1 9 122 HT_ HW_.out hHeld _ _ ?_; refine pq 10 123 HT_ _ _ ?_
             refine done_ (done_of HT_.out (by kernel_rfl)) ?_
             try go_wp2
             go_roundg k6
             case measure => have := HJ2.out; have := HJ12.out; have := HJ25.out; have := HK4.out; have := HJ36.out; have := HK6.out; omega
             case rel => exact ⟨(wrap64 (x9_6 + 1)), (by first | rfl | (simp; done) | (simp [*]; done)), H', ⟨by have := HJ2.out; have := HJ12.out; have := HJ25.out; have := HK4.out; have := HJ36.out; have := HK6.out; omega⟩, ⟨bx BK218.out⟩, ⟨be w⟩⟩
end Go.Proofs.YtcoapbnbakmkoaaGreatDoor.PFnExactShowProgram
