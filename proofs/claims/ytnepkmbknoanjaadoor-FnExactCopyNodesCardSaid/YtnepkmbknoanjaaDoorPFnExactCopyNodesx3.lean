/- Written by a program of this session (a turned copy of the kit's print): a contract for each Go function. No condition beside those in each statement. -/
import Derived.Test.YtnepkmbknoanjaaDoorPFnExactCopyNodesx0
import Derived.Test.YtnepkmbknoanjaaDoorPFnExactCopyNodesx1
import Derived.Test.YtnepkmbknoanjaaDoorPFnExactCopyNodesx2
namespace Go.Proofs.YtnepkmbknoanjaaDoor.PFnExactCopyNodes
open Go.RowKit Go.Proofs.YtnepkmbknoanjaaDoor.Given Go.Proofs.YtnepkmbknoanjaaDoorW.PrintWords Go.Proofs.YtnepkmbknoanjaaDoorW.PrintLast Go.Proofs.YtnepkmbknoanjaaDoorW.PrintMore
attribute [local go_sem] max2_int min2_int max_two min_two max_three min_three max_four min_four   -- for this text's walks alone
set_option linter.unusedVariables false
set_option linter.unusedSimpArgs false

/-! ### spec_NodeOk: function 44 -/
mutual
def spec_NodeOk.j0 : Nat → List (S52) → Int → Bool → Option (Bool)
 | 0, _, _, _ => none
 | k + 1, x0, x1, x24 => if x24 = true then (some false) else (if 0 ≤ x1 then (if x1 < (x0.length : Int) then ((spec_l04Kids.f k ((rd_T52 x0 x1).f0)).bind fun bt137 => ((spec_l01In.f (((rd_T52 x0 x1).f3).length : Int) bt137.1 bt137.2).bind fun t139 => (if t139 = true then ((spec_l01In.f ((rd_T52 x0 x1).f1) 0 1000000000).bind fun t140 => (if t140 = true then (if ((rd_T52 x0 x1).f0) = 1 then (spec_NodeOk.j1 k x0 x1 false ((rd_T52 x0 x1).f0) ((rd_T52 x0 x1).f1) ((rd_T52 x0 x1).f2) ((rd_T52 x0 x1).f3)) else (spec_NodeOk.j1 k x0 x1 (((rd_T52 x0 x1).f1) != 0) ((rd_T52 x0 x1).f0) ((rd_T52 x0 x1).f1) ((rd_T52 x0 x1).f2) ((rd_T52 x0 x1).f3))) else (spec_NodeOk.j1 k x0 x1 true ((rd_T52 x0 x1).f0) ((rd_T52 x0 x1).f1) ((rd_T52 x0 x1).f2) ((rd_T52 x0 x1).f3)))) else (spec_NodeOk.j1 k x0 x1 true ((rd_T52 x0 x1).f0) ((rd_T52 x0 x1).f1) ((rd_T52 x0 x1).f2) ((rd_T52 x0 x1).f3))))) else (none)) else (none))
def spec_NodeOk.j1 : Nat → List (S52) → Int → Bool → Int → Int → ByteArray → List Int → Option (Bool)
 | 0, _, _, _, _, _, _, _ => none
 | k + 1, x0, x1, x57, x137000, x137001, x137002, x137003 => if x57 = true then (some false) else ((spec_l04Named.f x137000).bind fun t141 => (if (t141 != (x137002.toList != ([] : List UInt8))) = true then (spec_NodeOk.j2 k x0 x1 true x137000 x137001 x137002 x137003) else (if x137002.toList = ([] : List UInt8) then (spec_NodeOk.j2 k x0 x1 false x137000 x137001 x137002 x137003) else ((spec_NameOk.f k x137002).bind fun t142 => (spec_NodeOk.j2 k x0 x1 (!t142) x137000 x137001 x137002 x137003)))))
def spec_NodeOk.j2 : Nat → List (S52) → Int → Bool → Int → Int → ByteArray → List Int → Option (Bool)
 | 0, _, _, _, _, _, _, _ => none
 | k + 1, x0, x1, x75, x137000, x137001, x137002, x137003 => if x75 = true then (some false) else (spec_NodeOk.l0 k x0 x1 0 x137000 x137001 x137002 x137003)
def spec_NodeOk.l0 : Nat → List (S52) → Int → Int → Int → Int → ByteArray → List Int → Option (Bool)
 | 0, _, _, _, _, _, _, _ => none
 | k + 1, x0, x1, x8, x137000, x137001, x137002, x137003 => if x8 < (x137003.length : Int) then (if 0 ≤ x8 then ((spec_l01In.f (rd x137003 x8) 0 (wrap64 (x1 - 1))).bind fun t144 => (if t144 = true then (if 0 ≤ (rd x137003 x8) then (if (rd x137003 x8) < (x0.length : Int) then ((spec_l04Fits.f k x137000 x8 ((rd_T52 x0 (rd x137003 x8)).f0)).bind fun t147 => (spec_NodeOk.j4 k x0 x1 x8 (!t147) x137000 x137001 x137002 x137003)) else (none)) else (none)) else (spec_NodeOk.j4 k x0 x1 x8 true x137000 x137001 x137002 x137003))) else (none)) else (some true)
def spec_NodeOk.j4 : Nat → List (S52) → Int → Int → Bool → Int → Int → ByteArray → List Int → Option (Bool)
 | 0, _, _, _, _, _, _, _, _ => none
 | k + 1, x0, x1, x8, x107, x137000, x137001, x137002, x137003 => if x107 = true then (some false) else (spec_NodeOk.l1 k x0 x1 x8 0 x137000 x137001 x137002 x137003)
def spec_NodeOk.l1 : Nat → List (S52) → Int → Int → Int → Int → Int → ByteArray → List Int → Option (Bool)
 | 0, _, _, _, _, _, _, _, _ => none
 | k + 1, x0, x1, x8, x9, x137000, x137001, x137002, x137003 => if x9 < x8 then (if 0 ≤ x8 then (if x8 < (x137003.length : Int) then (if 0 ≤ x9 then (if x9 < (x137003.length : Int) then (if (rd x137003 x8) = (rd x137003 x9) then (some false) else (spec_NodeOk.l1 k x0 x1 x8 (wrap64 (x9 + 1)) x137000 x137001 x137002 x137003)) else (none)) else (none)) else (none)) else (none)) else (spec_NodeOk.l0 k x0 x1 (wrap64 (x8 + 1)) x137000 x137001 x137002 x137003)
end
def spec_NodeOk.f (k : Nat) (l0 : List (S52)) (a1 : Int) : Option (Bool) := (spec_l01In.f a1 0 (wrap64 ((l0.length : Int) - 1))).bind fun t132 => (if t132 = true then (if 0 ≤ a1 then (if a1 < (l0.length : Int) then ((spec_l01In.f ((rd_T52 l0 a1).f0) 1 20).bind fun t134 => (spec_NodeOk.j0 k l0 a1 (!t134))) else (none)) else (none)) else (spec_NodeOk.j0 k l0 a1 true))
theorem spec_NodeOk.mono_l : ∀ k, (∀ y0 y1 y2, LeO (spec_NodeOk.j0 k y0 y1 y2) (spec_NodeOk.j0 (k + 1) y0 y1 y2)) ∧ (∀ y0 y1 y2 y3 y4 y5 y6, LeO (spec_NodeOk.j1 k y0 y1 y2 y3 y4 y5 y6) (spec_NodeOk.j1 (k + 1) y0 y1 y2 y3 y4 y5 y6)) ∧ (∀ y0 y1 y2 y3 y4 y5 y6, LeO (spec_NodeOk.j2 k y0 y1 y2 y3 y4 y5 y6) (spec_NodeOk.j2 (k + 1) y0 y1 y2 y3 y4 y5 y6)) ∧ (∀ y0 y1 y2 y3 y4 y5 y6, LeO (spec_NodeOk.l0 k y0 y1 y2 y3 y4 y5 y6) (spec_NodeOk.l0 (k + 1) y0 y1 y2 y3 y4 y5 y6)) ∧ (∀ y0 y1 y2 y3 y4 y5 y6 y7, LeO (spec_NodeOk.j4 k y0 y1 y2 y3 y4 y5 y6 y7) (spec_NodeOk.j4 (k + 1) y0 y1 y2 y3 y4 y5 y6 y7)) ∧ (∀ y0 y1 y2 y3 y4 y5 y6 y7, LeO (spec_NodeOk.l1 k y0 y1 y2 y3 y4 y5 y6 y7) (spec_NodeOk.l1 (k + 1) y0 y1 y2 y3 y4 y5 y6 y7))
 | 0 => ⟨fun _ _ _ r h => by simp [spec_NodeOk.j0] at h, fun _ _ _ _ _ _ _ r h => by simp [spec_NodeOk.j1] at h, fun _ _ _ _ _ _ _ r h => by simp [spec_NodeOk.j2] at h, fun _ _ _ _ _ _ _ r h => by simp [spec_NodeOk.l0] at h, fun _ _ _ _ _ _ _ _ r h => by simp [spec_NodeOk.j4] at h, fun _ _ _ _ _ _ _ _ r h => by simp [spec_NodeOk.l1] at h⟩
 | k + 1 => by
  obtain ⟨ih0, ih1, ih2, ih3, ih4, ih5⟩ := spec_NodeOk.mono_l k
  refine ⟨?_, ?_, ?_, ?_, ?_, ?_⟩
  ·
   intro y0 y1 y2
   unfold spec_NodeOk.j0
   with_reducible repeat' first | exact ih0 _ _ _ | exact ih1 _ _ _ _ _ _ _ | exact ih2 _ _ _ _ _ _ _ | exact ih3 _ _ _ _ _ _ _ | exact ih4 _ _ _ _ _ _ _ _ | exact ih5 _ _ _ _ _ _ _ _ | exact spec_NameOk.mono _ _ | exact spec_l04Fits.mono _ _ _ _ | exact spec_l04Kids.mono _ _ | exact LeO.refl _ | exact LeO.none _ | refine LeO.ite ?_ ?_ | refine LeO.bind ?_ (fun _ => ?_)
  ·
   intro y0 y1 y2 y3 y4 y5 y6
   unfold spec_NodeOk.j1
   with_reducible repeat' first | exact ih0 _ _ _ | exact ih1 _ _ _ _ _ _ _ | exact ih2 _ _ _ _ _ _ _ | exact ih3 _ _ _ _ _ _ _ | exact ih4 _ _ _ _ _ _ _ _ | exact ih5 _ _ _ _ _ _ _ _ | exact spec_NameOk.mono _ _ | exact spec_l04Fits.mono _ _ _ _ | exact spec_l04Kids.mono _ _ | exact LeO.refl _ | exact LeO.none _ | refine LeO.ite ?_ ?_ | refine LeO.bind ?_ (fun _ => ?_)
  ·
   intro y0 y1 y2 y3 y4 y5 y6
   unfold spec_NodeOk.j2
   with_reducible repeat' first | exact ih0 _ _ _ | exact ih1 _ _ _ _ _ _ _ | exact ih2 _ _ _ _ _ _ _ | exact ih3 _ _ _ _ _ _ _ | exact ih4 _ _ _ _ _ _ _ _ | exact ih5 _ _ _ _ _ _ _ _ | exact spec_NameOk.mono _ _ | exact spec_l04Fits.mono _ _ _ _ | exact spec_l04Kids.mono _ _ | exact LeO.refl _ | exact LeO.none _ | refine LeO.ite ?_ ?_ | refine LeO.bind ?_ (fun _ => ?_)
  ·
   intro y0 y1 y2 y3 y4 y5 y6
   unfold spec_NodeOk.l0
   with_reducible repeat' first | exact ih0 _ _ _ | exact ih1 _ _ _ _ _ _ _ | exact ih2 _ _ _ _ _ _ _ | exact ih3 _ _ _ _ _ _ _ | exact ih4 _ _ _ _ _ _ _ _ | exact ih5 _ _ _ _ _ _ _ _ | exact spec_NameOk.mono _ _ | exact spec_l04Fits.mono _ _ _ _ | exact spec_l04Kids.mono _ _ | exact LeO.refl _ | exact LeO.none _ | refine LeO.ite ?_ ?_ | refine LeO.bind ?_ (fun _ => ?_)
  ·
   intro y0 y1 y2 y3 y4 y5 y6 y7
   unfold spec_NodeOk.j4
   with_reducible repeat' first | exact ih0 _ _ _ | exact ih1 _ _ _ _ _ _ _ | exact ih2 _ _ _ _ _ _ _ | exact ih3 _ _ _ _ _ _ _ | exact ih4 _ _ _ _ _ _ _ _ | exact ih5 _ _ _ _ _ _ _ _ | exact spec_NameOk.mono _ _ | exact spec_l04Fits.mono _ _ _ _ | exact spec_l04Kids.mono _ _ | exact LeO.refl _ | exact LeO.none _ | refine LeO.ite ?_ ?_ | refine LeO.bind ?_ (fun _ => ?_)
  ·
   intro y0 y1 y2 y3 y4 y5 y6 y7
   unfold spec_NodeOk.l1
   with_reducible repeat' first | exact ih0 _ _ _ | exact ih1 _ _ _ _ _ _ _ | exact ih2 _ _ _ _ _ _ _ | exact ih3 _ _ _ _ _ _ _ | exact ih4 _ _ _ _ _ _ _ _ | exact ih5 _ _ _ _ _ _ _ _ | exact spec_NameOk.mono _ _ | exact spec_l04Fits.mono _ _ _ _ | exact spec_l04Kids.mono _ _ | exact LeO.refl _ | exact LeO.none _ | refine LeO.ite ?_ ?_ | refine LeO.bind ?_ (fun _ => ?_)
theorem spec_NodeOk.mono : ∀ a0 a1 k, LeO (spec_NodeOk.f k a0 a1) (spec_NodeOk.f (k + 1) a0 a1) := by
 intro a0 a1 k
 obtain ⟨ih0, ih1, ih2, ih3, ih4, ih5⟩ := spec_NodeOk.mono_l k
 unfold spec_NodeOk.f
 with_reducible repeat' first | exact ih0 _ _ _ | exact ih1 _ _ _ _ _ _ _ | exact ih2 _ _ _ _ _ _ _ | exact ih3 _ _ _ _ _ _ _ | exact ih4 _ _ _ _ _ _ _ _ | exact ih5 _ _ _ _ _ _ _ _ | exact spec_NameOk.mono _ _ | exact spec_l04Fits.mono _ _ _ _ | exact spec_l04Kids.mono _ _ | exact LeO.refl _ | exact LeO.none _ | refine LeO.ite ?_ ?_ | refine LeO.bind ?_ (fun _ => ?_)
def spec_NodeOk.T7 : Bool × List (List Nat × List Nat) := (true, [([], []), ([0], [0]), ([1], [1]), ([], []), ([3], [3]), ([4], [4]), ([2, 5], [2, 5]), ([6, 2], [6]), ([7], [7]), ([8, 7], [7, 8]), ([9, 7], [7, 9]), ([10, 7, 7], [7, 10]), ([11], [11]), ([12, 11], [11, 12]), ([13, 11, 11], [11, 13]), ([14, 11], [11, 14]), ([11, 15, 7], [7, 11, 15]), ([7, 16], [7, 16])])
def spec_NodeOk.B7 : List Nat := [0, 1, 3, 0, 8, 24, 63, 127, 255, 511, 1023, 2047, 4095, 8191, 16383, 32767, 65535, 131071]
theorem spec_NodeOk.tab7 : rtab .any (opsOf Tryd.f44 7) = spec_NodeOk.T7 := by kernel_rfl
theorem spec_NodeOk.bits7 : waitsOk spec_NodeOk.T7.2 spec_NodeOk.B7 = true := by kernel_rfl
def spec_NodeOk.T12 : Bool × List (List Nat × List Nat) := (true, [([], []), ([0], [0]), ([], []), ([1, 2], [1, 2]), ([3], [3]), ([], []), ([5], [5]), ([4, 6], [4, 6]), ([7], [7]), ([8, 7], [8]), ([9], [9]), ([10, 9], [9, 10]), ([9], [9]), ([9], [9]), ([9], [9]), ([14, 9], [9, 14]), ([9], [9]), ([15, 16, 9], [9, 15, 16]), ([17, 9], [9, 17]), ([13, 18, 9], [9, 13, 18]), ([19, 9], [9, 19]), ([20, 9], [9, 20]), ([11, 12, 21, 9, 9], [9, 11, 12, 21]), ([22, 9], [9, 22]), ([9, 23], [9, 23])])
def spec_NodeOk.B12 : List Nat := [0, 1, 0, 7, 15, 0, 32, 127, 255, 511, 1023, 2047, 1023, 1023, 1023, 17407, 1023, 115711, 246783, 517119, 1041407, 2089983, 4194303, 8388607, 16777215]
theorem spec_NodeOk.tab12 : rtab .any (opsOf Tryd.f44 12) = spec_NodeOk.T12 := by kernel_rfl
theorem spec_NodeOk.bits12 : waitsOk spec_NodeOk.T12.2 spec_NodeOk.B12 = true := by kernel_rfl
def spec_NodeOk.T17 : Bool × List (List Nat × List Nat) := (true, [([], []), ([0], [0]), ([], []), ([1, 2], [1, 2]), ([3], [3]), ([], []), ([5], [5]), ([], []), ([6, 7], [6, 7]), ([8], [8]), ([4, 9], [4, 9])])
def spec_NodeOk.B17 : List Nat := [0, 1, 0, 7, 15, 0, 32, 0, 224, 480, 1023]
theorem spec_NodeOk.tab17 : rtab .any (opsOf Tryd.f44 17) = spec_NodeOk.T17 := by kernel_rfl
theorem spec_NodeOk.bits17 : waitsOk spec_NodeOk.T17.2 spec_NodeOk.B17 = true := by kernel_rfl
set_option maxHeartbeats 8000000 in
set_option maxRecDepth 100000 in
theorem spec_NodeOk.calls (k : Nat) (A0 : Option Addr) (c0 : Nat) (l0 : List (S52)) (a1 : Int) (r : Bool) (w : World) (hr0 : Kd.C k52 w A0 l0.length l0) (hc0 : l0.length ≤ c0) (h : spec_NodeOk.f k l0 a1 = some r) :
  Calls Tryd.prog 44 #[.slice A0 l0.length c0, .int .i64 a1] w fun e w' => e = .returned (.bool r) ∧ Below w.heap.size w w' := by
 have hu52 := Tryd.underlying52
 have HR0 := As.mk hr0
 have HC0 := As.mk hc0
 clear hr0 hc0
 have HB := As.mk (Below.refl w.heap.size w)
 have H : ((spec_l01In.f a1 0 (wrap64 ((l0.length : Int) - 1))).bind fun t132 => (if t132 = true then (if 0 ≤ a1 then (if a1 < (l0.length : Int) then ((spec_l01In.f ((rd_T52 l0 a1).f0) 1 20).bind fun t134 => (spec_NodeOk.j0 k l0 a1 (!t134))) else (none)) else (none)) else (spec_NodeOk.j0 k l0 a1 true))) = some r := h
 clear h
 have HC3 := As.mk H
 clear H
 go_enter Tryd.func44, Tryd.ntmps44
 go_upto_region 1 with (fail)
 go_cut [24] (fun v24 wc => ∃ (kq : Nat) (x24_2 : Bool), v24 = .bool x24_2 ∧ As (spec_NodeOk.j0 kq l0 a1 x24_2 = some r) ∧ As (kq ≤ k) ∧ As (Below w.heap.size w wc))
 case first =>
  have H := HC3.out
  clear HC3
  obtain ⟨t132, A40, H⟩ := Option.bind_eq_some_iff.mp H
  try dsimp only at H
  have A4 := As.mk A40
  clear A40
  by_cases c5 : t132 = true
  rotate_left
  ·
   replace c5 := Bool.eq_false_iff.mpr c5
   subst c5
   rw [if_neg (show ¬ (false = true) by decide)] at H
   have H' := As.mk H
   clear H
   go_wp2_with (first | ((with_reducible refine gate_callee (f := 33) rfl ?_); refine goesL_ (some 14) rfl rfl Tryd.func33 (by kernel_rfl) rfl #[.int .i64 a1, .int .i64 0, .int .i64 (wrap64 ((l0.length : Int) - 1))] rfl (by (try simp only [lm]); first | done | rfl | (simp only [List.length_drop, List.length_take]; rfl)) ?_; (with_reducible refine (spec_l01In.calls a1 0 (wrap64 ((l0.length : Int) - 1)) false _ A4.out).mono ?_); rintro e w' ⟨rfl, ⟨nd, rfl⟩⟩; refine ⟨_, rfl, ?_⟩))
   go_meet
   case rel => exact ⟨_, (true), (by first | rfl | (simp; done) | (simp [*]; done)), H', ⟨by first | omega | exact Nat.le_refl _⟩, ⟨be w⟩⟩
  subst c5
  rw [if_pos rfl] at H
  by_cases c6 : 0 ≤ a1
  rotate_left; · rw [if_neg c6] at H; exact absurd H (by simp)
  rw [if_pos c6] at H
  have c6b0 : decide (0 ≤ a1) = true := decide_eq_true c6
  clear c6
  (first | rw [c6b0] | (simp only [i64_w, i32_w]; rw [c6b0]) | skip)
  by_cases c7 : a1 < (l0.length : Int)
  rotate_left; · rw [if_neg c7] at H; exact absurd H (by simp)
  rw [if_pos c7] at H
  have c7b0 : decide (a1 < (l0.length : Int)) = true := decide_eq_true c7
  clear c7
  obtain ⟨t134, A80, H⟩ := Option.bind_eq_some_iff.mp H
  try dsimp only at H
  have A8 := As.mk A80
  clear A80
  have H' := As.mk H
  clear H
  go_wp2_with (first | ((with_reducible refine gate_callee (f := 33) rfl ?_); refine goesL_ (some 14) rfl rfl Tryd.func33 (by kernel_rfl) rfl #[.int .i64 a1, .int .i64 0, .int .i64 (wrap64 ((l0.length : Int) - 1))] rfl (by (try simp only [lm]); first | done | rfl | (simp only [List.length_drop, List.length_take]; rfl)) ?_; (with_reducible refine (spec_l01In.calls a1 0 (wrap64 ((l0.length : Int) - 1)) true _ A4.out).mono ?_); rintro e w' ⟨rfl, ⟨nd, rfl⟩⟩; refine ⟨_, rfl, ?_⟩; have p133 : 0 ≤ (a1 : Int) := od; have q133 : a1 < (l0.length : Int) := od; obtain ⟨ad133, A133_3, c133_3, e133, hx133_0, hx133_1, hx133_2, hx133_3, hl133_3, hi133_3⟩ := at_T52 HR0.out a1 p133 q133; cases e133; replace hx133_0 := ce HB.out hx133_0; replace hx133_1 := ce HB.out hx133_1; replace hx133_2 := ce HB.out hx133_2; replace hx133_3 := ce HB.out hx133_3; have HR133_3 := As.mk hi133_3; have HC133_3 := As.mk hl133_3; clear hi133_3 hl133_3; replace p133 := eq_true p133; replace q133 := eq_true q133) | (go_at_call 33; (with_reducible refine (spec_l01In.calls ((rd_T52 l0 a1).f0) 1 20 t134 _ A8.out).mono ?_); rintro e w' ⟨rfl, ⟨nd, rfl⟩⟩))
  go_meet
  case rel => exact ⟨_, (!t134), (by first | rfl | (simp; done) | (simp [*]; done)), H', ⟨by first | omega | exact Nat.le_refl _⟩, ⟨be w⟩⟩
 case rest =>
  clear HC3
  obtain ⟨kq, x24_2, rfl, HA, HJ2, HB⟩ := hcut
  cases kq with
  | zero => exact absurd HA.out (by simp [spec_NodeOk.j0])
  | succ kj2 =>
   have H := HA.out
   clear HA
   simp only [spec_NodeOk.j0] at H
   by_cases c9 : x24_2 = true
   ·
    subst c9
    rw [if_pos rfl] at H
    obtain rfl := Option.some.inj H
    go_wp2
    go_ret
    exact ⟨ez, be w⟩
   replace c9 := Bool.eq_false_iff.mpr c9
   subst c9
   rw [if_neg (show ¬ (false = true) by decide)] at H
   by_cases c10 : 0 ≤ a1
   rotate_left; · rw [if_neg c10] at H; exact absurd H (by simp)

   rw [if_pos c10] at H
   have c10b0 : decide (0 ≤ a1) = true := decide_eq_true c10
   clear c10
   by_cases c11 : a1 < (l0.length : Int)
   rotate_left; · rw [if_neg c11] at H; exact absurd H (by simp)
   rw [if_pos c11] at H
   have c11b0 : decide (a1 < (l0.length : Int)) = true := decide_eq_true c11
   clear c11
   obtain ⟨⟨t137, t138⟩, A120, H⟩ := Option.bind_eq_some_iff.mp H
   try dsimp only at H
   have A12 := As.mk A120
   clear A120
   have HC13 := As.mk H
   clear H
   have p135 : 0 ≤ (a1 : Int) := od
   have q135 : a1 < (l0.length : Int) := od
   obtain ⟨ad135, A135_3, c135_3, e135, hx135_0, hx135_1, hx135_2, hx135_3, hl135_3, hi135_3⟩ := at_T52 HR0.out a1 p135 q135
   cases e135
   replace hx135_0 := ce HB.out hx135_0
   replace hx135_1 := ce HB.out hx135_1
   replace hx135_2 := ce HB.out hx135_2
   replace hx135_3 := ce HB.out hx135_3
   have HR135_3 := As.mk hi135_3
   have HC135_3 := As.mk hl135_3
   clear hi135_3 hl135_3
   replace p135 := eq_true p135
   replace q135 := eq_true q135
   go_upto_region 5 with (first | ((with_reducible refine gate_dst (N := 5) rfl ?_); refine box_event ?hg (N := 5) ?hd (cs := #[.int .i64 0, .int .i64 0, .string (⟨#[]⟩ : ByteArray), .slice none 0 0]) (t := 52) ?hr ?_; (case hd => rfl); (case hg => rfl); (case hr => first | (go_simp; done) | (go_simp; rfl)); intro gb136 hg w14 hbox hb; have BK136 := As.mk (hbox); have GW136 := As.mk (gs w hg); have GE136 := As.mk (gs w hg); replace HB := As.mk (below_step (be w) hb); clear hb hbox hg; obtain ⟨hcz15_0, hcz15_1, hcz15_2, hcz15_3, hfz15_0, hfz15_1, hfz15_2, hfz15_3⟩ := cl4 BK136.out) | ((with_reducible refine gate_callee (f := 49) rfl ?_); refine goesL_ (some 32) rfl rfl Tryd.func49 (by kernel_rfl) rfl #[.int .i64 ((rd_T52 l0 a1).f0)] rfl (by (try simp only [lm]); first | done | rfl | (simp only [List.length_drop, List.length_take]; rfl)) ?_; (with_reducible refine (spec_l04Kids.calls kj2 ((rd_T52 l0 a1).f0) t137 t138 _ A12.out).mono ?_); rintro e w' ⟨rfl, ⟨nd, rfl⟩⟩; refine ⟨_, rfl, ?_⟩))
   (try simp only [pk])
   go_cut [57] (fun v57 wc => ∃ (kq : Nat) (x57_12 : Bool), v57 = .bool x57_12 ∧ As (spec_NodeOk.j1 kq l0 a1 x57_12 ((rd_T52 l0 a1).f0) ((rd_T52 l0 a1).f1) ((rd_T52 l0 a1).f2) ((rd_T52 l0 a1).f3) = some r) ∧ As (kq ≤ kj2) ∧ As (wc.heap[gb136]? = some (.cells #[.int .i64 ((rd_T52 l0 a1).f0), .int .i64 ((rd_T52 l0 a1).f1), .string ((rd_T52 l0 a1).f2), (.slice A135_3 ((rd_T52 l0 a1).f3).length c135_3)] 52 (0, 0))) ∧ As (Below w.heap.size w wc))
   case first =>
    have H := HC13.out
    clear HC13
    obtain ⟨t139, A160, H⟩ := Option.bind_eq_some_iff.mp H
    try dsimp only at H
    have A16 := As.mk A160
    clear A160
    by_cases c17 : t139 = true
    rotate_left
    ·
     replace c17 := Bool.eq_false_iff.mpr c17
     subst c17
     rw [if_neg (show ¬ (false = true) by decide)] at H
     have H' := As.mk H
     clear H
     obtain ⟨hcz24_0, hcz24_1, hcz24_2, hcz24_3, hfz24_0, hfz24_1, hfz24_2, hfz24_3⟩ := cl4 BK136.out
     go_wp2_with (first | ((with_reducible refine gate_callee (f := 33) rfl ?_); refine goesL_ (some 40) rfl rfl Tryd.func33 (by kernel_rfl) rfl #[.int .i64 (((rd_T52 l0 a1).f3).length : Int), .int .i64 t137, .int .i64 t138] rfl (by (try simp only [lm]); first | done | rfl | (simp only [List.length_drop, List.length_take]; rfl)) ?_; (with_reducible refine (spec_l01In.calls (((rd_T52 l0 a1).f3).length : Int) t137 t138 false _ A16.out).mono ?_); rintro e w' ⟨rfl, ⟨nd, rfl⟩⟩; refine ⟨_, rfl, ?_⟩))
     go_meet
     case rel => exact ⟨_, (true), (by first | rfl | (simp; done) | (simp [*]; done)), H', ⟨by have := HJ2.out; first | omega | exact Nat.le_refl _⟩, ⟨by refine pl ?_; refine blk_put (cs := #[.int .i64 ((rd_T52 l0 a1).f0), .int .i64 ((rd_T52 l0 a1).f1), .string ((rd_T52 l0 a1).f2), .slice none 0 0]) ?_ 3 _ rfl; refine pl ?_; refine blk_put (cs := #[.int .i64 ((rd_T52 l0 a1).f0), .int .i64 ((rd_T52 l0 a1).f1), .string (⟨#[]⟩ : ByteArray), .slice none 0 0]) ?_ 2 _ rfl; refine pl ?_; refine blk_put (cs := #[.int .i64 ((rd_T52 l0 a1).f0), .int .i64 0, .string (⟨#[]⟩ : ByteArray), .slice none 0 0]) ?_ 1 _ rfl; refine pl ?_; refine blk_put (cs := #[.int .i64 0, .int .i64 0, .string (⟨#[]⟩ : ByteArray), .slice none 0 0]) ?_ 0 _ rfl; exact bx BK136.out⟩, ⟨be w⟩⟩
    subst c17
    rw [if_pos rfl] at H
    obtain ⟨t140, A180, H⟩ := Option.bind_eq_some_iff.mp H
    try dsimp only at H
    have A18 := As.mk A180
    clear A180
    by_cases c19 : t140 = true
    rotate_left
    ·
     replace c19 := Bool.eq_false_iff.mpr c19
     subst c19
     rw [if_neg (show ¬ (false = true) by decide)] at H
     have H' := As.mk H
     clear H
     obtain ⟨hcz23_0, hcz23_1, hcz23_2, hcz23_3, hfz23_0, hfz23_1, hfz23_2, hfz23_3⟩ := cl4 BK136.out
     go_wp2_with (first | ((with_reducible refine gate_callee (f := 33) rfl ?_); refine goesL_ (some 40) rfl rfl Tryd.func33 (by kernel_rfl) rfl #[.int .i64 (((rd_T52 l0 a1).f3).length : Int), .int .i64 t137, .int .i64 t138] rfl (by (try simp only [lm]); first | done | rfl | (simp only [List.length_drop, List.length_take]; rfl)) ?_; (with_reducible refine (spec_l01In.calls (((rd_T52 l0 a1).f3).length : Int) t137 t138 true _ A16.out).mono ?_); rintro e w' ⟨rfl, ⟨nd, rfl⟩⟩; refine ⟨_, rfl, ?_⟩) | (go_at_call 33; (with_reducible refine (spec_l01In.calls ((rd_T52 l0 a1).f1) 0 1000000000 false _ A18.out).mono ?_); rintro e w' ⟨rfl, ⟨nd, rfl⟩⟩))
     go_meet
     case rel => exact ⟨_, (true), (by first | rfl | (simp; done) | (simp [*]; done)), H', ⟨by have := HJ2.out; first | omega | exact Nat.le_refl _⟩, ⟨by refine pl ?_; refine blk_put (cs := #[.int .i64 ((rd_T52 l0 a1).f0), .int .i64 ((rd_T52 l0 a1).f1), .string ((rd_T52 l0 a1).f2), .slice none 0 0]) ?_ 3 _ rfl; refine pl ?_; refine blk_put (cs := #[.int .i64 ((rd_T52 l0 a1).f0), .int .i64 ((rd_T52 l0 a1).f1), .string (⟨#[]⟩ : ByteArray), .slice none 0 0]) ?_ 2 _ rfl; refine pl ?_; refine blk_put (cs := #[.int .i64 ((rd_T52 l0 a1).f0), .int .i64 0, .string (⟨#[]⟩ : ByteArray), .slice none 0 0]) ?_ 1 _ rfl; refine pl ?_; refine blk_put (cs := #[.int .i64 0, .int .i64 0, .string (⟨#[]⟩ : ByteArray), .slice none 0 0]) ?_ 0 _ rfl; exact bx BK136.out⟩, ⟨be w⟩⟩
    subst c19
    rw [if_pos rfl] at H
    by_cases c20 : ((rd_T52 l0 a1).f0) = 1
    ·
     rw [if_pos c20] at H
     have c20b0 : (((rd_T52 l0 a1).f0) == 1) = true := beq_iff_eq.mpr c20
     have c20b1 : (((rd_T52 l0 a1).f0) != 1) = false := bne_eq_false_iff_eq.mpr c20
     clear c20
     (first | rw [c20b0] | (simp only [i64_w, i32_w]; rw [c20b0]) | skip)
     have H' := As.mk H
     clear H
     obtain ⟨hcz21_0, hcz21_1, hcz21_2, hcz21_3, hfz21_0, hfz21_1, hfz21_2, hfz21_3⟩ := cl4 BK136.out
     go_wp2_with (first | ((with_reducible refine gate_callee (f := 33) rfl ?_); refine goesL_ (some 40) rfl rfl Tryd.func33 (by kernel_rfl) rfl #[.int .i64 (((rd_T52 l0 a1).f3).length : Int), .int .i64 t137, .int .i64 t138] rfl (by (try simp only [lm]); first | done | rfl | (simp only [List.length_drop, List.length_take]; rfl)) ?_; (with_reducible refine (spec_l01In.calls (((rd_T52 l0 a1).f3).length : Int) t137 t138 true _ A16.out).mono ?_); rintro e w' ⟨rfl, ⟨nd, rfl⟩⟩; refine ⟨_, rfl, ?_⟩) | (go_at_call 33; (with_reducible refine (spec_l01In.calls ((rd_T52 l0 a1).f1) 0 1000000000 true _ A18.out).mono ?_); rintro e w' ⟨rfl, ⟨nd, rfl⟩⟩))
     go_meet
     case rel => exact ⟨_, (false), (by first | rfl | (simp; done) | (simp [*]; done)), H', ⟨by have := HJ2.out; first | omega | exact Nat.le_refl _⟩, ⟨by refine pl ?_; refine blk_put (cs := #[.int .i64 ((rd_T52 l0 a1).f0), .int .i64 ((rd_T52 l0 a1).f1), .string ((rd_T52 l0 a1).f2), .slice none 0 0]) ?_ 3 _ rfl; refine pl ?_; refine blk_put (cs := #[.int .i64 ((rd_T52 l0 a1).f0), .int .i64 ((rd_T52 l0 a1).f1), .string (⟨#[]⟩ : ByteArray), .slice none 0 0]) ?_ 2 _ rfl; refine pl ?_; refine blk_put (cs := #[.int .i64 ((rd_T52 l0 a1).f0), .int .i64 0, .string (⟨#[]⟩ : ByteArray), .slice none 0 0]) ?_ 1 _ rfl; refine pl ?_; refine blk_put (cs := #[.int .i64 0, .int .i64 0, .string (⟨#[]⟩ : ByteArray), .slice none 0 0]) ?_ 0 _ rfl; exact bx BK136.out⟩, ⟨be w⟩⟩
    rw [if_neg c20] at H
    have c20b0 : (((rd_T52 l0 a1).f0) == 1) = false := beq_eq_false_iff_ne.mpr c20
    have c20b1 : (((rd_T52 l0 a1).f0) != 1) = true := bne_iff_ne.mpr c20
    (first | rw [c20b0] | (simp only [i64_w, i32_w]; rw [c20b0]) | skip)
    have H' := As.mk H
    clear H
    obtain ⟨hcz22_0, hcz22_1, hcz22_2, hcz22_3, hfz22_0, hfz22_1, hfz22_2, hfz22_3⟩ := cl4 BK136.out
    go_wp2_with (first | ((with_reducible refine gate_callee (f := 33) rfl ?_); refine goesL_ (some 40) rfl rfl Tryd.func33 (by kernel_rfl) rfl #[.int .i64 (((rd_T52 l0 a1).f3).length : Int), .int .i64 t137, .int .i64 t138] rfl (by (try simp only [lm]); first | done | rfl | (simp only [List.length_drop, List.length_take]; rfl)) ?_; (with_reducible refine (spec_l01In.calls (((rd_T52 l0 a1).f3).length : Int) t137 t138 true _ A16.out).mono ?_); rintro e w' ⟨rfl, ⟨nd, rfl⟩⟩; refine ⟨_, rfl, ?_⟩) | (go_at_call 33; (with_reducible refine (spec_l01In.calls ((rd_T52 l0 a1).f1) 0 1000000000 true _ A18.out).mono ?_); rintro e w' ⟨rfl, ⟨nd, rfl⟩⟩))
    go_meet
    case rel => exact ⟨_, ((((rd_T52 l0 a1).f1) != 0)), (by first | rfl | (simp; done) | (simp [*]; done)), H', ⟨by have := HJ2.out; first | omega | exact Nat.le_refl _⟩, ⟨by refine pl ?_; refine blk_put (cs := #[.int .i64 ((rd_T52 l0 a1).f0), .int .i64 ((rd_T52 l0 a1).f1), .string ((rd_T52 l0 a1).f2), .slice none 0 0]) ?_ 3 _ rfl; refine pl ?_; refine blk_put (cs := #[.int .i64 ((rd_T52 l0 a1).f0), .int .i64 ((rd_T52 l0 a1).f1), .string (⟨#[]⟩ : ByteArray), .slice none 0 0]) ?_ 2 _ rfl; refine pl ?_; refine blk_put (cs := #[.int .i64 ((rd_T52 l0 a1).f0), .int .i64 0, .string (⟨#[]⟩ : ByteArray), .slice none 0 0]) ?_ 1 _ rfl; refine pl ?_; refine blk_put (cs := #[.int .i64 0, .int .i64 0, .string (⟨#[]⟩ : ByteArray), .slice none 0 0]) ?_ 0 _ rfl; exact bx BK136.out⟩, ⟨be w⟩⟩
   case rest =>
    clear HC13
    (try clear c9); (try clear c10); (try clear c10b0); (try clear c11); (try clear c11b0); (try clear hcz15_0); (try clear hcz15_1); (try clear hcz15_2); (try clear hcz15_3); (try clear hfz15_0); (try clear hfz15_1); (try clear hfz15_2); (try clear hfz15_3); (try clear hx135_0); (try clear hx135_1); (try clear hx135_2); (try clear hx135_3); (try clear p135); (try clear q135)
    obtain ⟨kq, x57_12, rfl, HA, HJ12, BK136, HB⟩ := hcut
    cases kq with
    | zero => exact absurd HA.out (by simp [spec_NodeOk.j1])
    | succ kj12 =>
     have H := HA.out
     clear HA
     simp only [spec_NodeOk.j1] at H
     by_cases c25 : x57_12 = true
     ·
      subst c25
      rw [if_pos rfl] at H
      obtain rfl := Option.some.inj H
      go_wp2
      go_ret
      exact ⟨ez, be w⟩
     replace c25 := Bool.eq_false_iff.mpr c25
     subst c25
     rw [if_neg (show ¬ (false = true) by decide)] at H
     have HC26 := As.mk H
     clear H
     go_upto_region 7 with (fail)
     go_cut [75] (fun v75 wc => ∃ (kq : Nat) (x75_25 : Bool), v75 = .bool x75_25 ∧ As (spec_NodeOk.j2 kq l0 a1 x75_25 ((rd_T52 l0 a1).f0) ((rd_T52 l0 a1).f1) ((rd_T52 l0 a1).f2) ((rd_T52 l0 a1).f3) = some r) ∧ As (kq ≤ kj12) ∧ As (wc.heap[gb136]? = some (.cells #[.int .i64 ((rd_T52 l0 a1).f0), .int .i64 ((rd_T52 l0 a1).f1), .string ((rd_T52 l0 a1).f2), (.slice A135_3 ((rd_T52 l0 a1).f3).length c135_3)] 52 (0, 0))) ∧ As (Below w.heap.size w wc))
     case first =>
      have H := HC26.out
      clear HC26
      obtain ⟨t141, A270, H⟩ := Option.bind_eq_some_iff.mp H
      try dsimp only at H
      have A27 := As.mk A270
      clear A270
      by_cases c28 : (t141 != (((rd_T52 l0 a1).f2).toList != ([] : List UInt8))) = true
      ·
       rw [if_pos c28] at H
       have c28b0 : (t141 != (((rd_T52 l0 a1).f2).toList != ([] : List UInt8))) = true := c28
       have c28b5 : (t141 == !(((rd_T52 l0 a1).f2).toList).isEmpty) = false := bne_ne_nil c28b0
       (try (have c28b1 : decide (t141 = (((rd_T52 l0 a1).f2).toList != ([] : List UInt8))) = false := by simpa using c28))
       (try (have c28b2 : (t141 == (((rd_T52 l0 a1).f2).toList != ([] : List UInt8))) = false := by simpa using c28))
       (try (have c28b3 : ¬ (t141 = (((rd_T52 l0 a1).f2).toList != ([] : List UInt8))) := by simpa using c28))
       clear c28
       (first | rw [c28b0] | (simp only [i64_w, i32_w]; rw [c28b0]) | rw [c28b2] | skip)
       have H' := As.mk H
       clear H
       try go_wp2
       replace BK136 := As.mk (blk_drew BK136.out)
       replace HB := As.mk (below_drew1 HB.out)
       refine start_ (n := 18) (S := fun w' => w'.cell? ⟨gb136, 0, none⟩ = some (.int .i64 ((rd_T52 l0 a1).f0)) ∧ w'.cell? ⟨gb136, 1, none⟩ = some (.int .i64 ((rd_T52 l0 a1).f1)) ∧ w'.cell? ⟨gb136, 2, none⟩ = some (.string ((rd_T52 l0 a1).f2)) ∧ w'.cell? ⟨gb136, 3, none⟩ = some (.slice A135_3 ((rd_T52 l0 a1).f3).length c135_3)) (ds := []) #[O, O, O, O, O, O, O, O, O, O, O, O, O, O, O, O, O, O] (by kernel_rfl) rfl rfl ⟨(blk_cell BK136.out 0).trans rfl, (blk_cell BK136.out 1).trans rfl, (blk_cell BK136.out 2).trans rfl, (blk_cell BK136.out 3).trans rfl⟩ (fun hHeld => ?_); refine with_tabW spec_NodeOk.tab7 spec_NodeOk.bits7 (fun HT_ HW_ => ?_)
       generalize wc.drew = w29 at BK136 HB hHeld ⊢
       refine pure_ (i := 0) (N := some 58) (v := ?_) (a' := ?_) #[I, O, O, O, O, O, O, O, O, O, O, O, O, O, O, O, O, O] rfl rfl (any_of HT_.out (by kernel_rfl)) (fun _ _ _ h => h) (Or.inl ⟨by rfl, ?_⟩) ?_ ?_
       rotate_left; · intro w'; go_simp; with_reducible rfl
       rotate_left; · simp only [pk, i64_w, i32_w]; rfl
       refine pure_ (i := 3) (N := some 61) (v := ?_) (a' := ?_) #[I, O, O, I, O, O, O, O, O, O, O, O, O, O, O, O, O, O] rfl rfl (any_of HT_.out (by kernel_rfl)) (fun _ _ _ h => h) (Or.inl ⟨by rfl, ?_⟩) ?_ ?_
       rotate_left; · intro w'; go_simp; with_reducible rfl
       rotate_left; · simp only [pk, i64_w, i32_w]; rfl
       refine take_ (i := 1) (N := some 59) (v := ?_) (a' := ?_) #[I, I, O, I, O, O, O, O, O, O, O, O, O, O, O, O, O, O] rfl rfl (take_ofW HT_.out HW_.out (by kernel_rfl)) (fun _ _ _ h => h) (Or.inl ⟨by rfl, ?_⟩) hHeld ?_ ?_
       rotate_left; · rintro w' ⟨s0, s1, s2, s3⟩; go_simp; with_reducible rfl
       rotate_left; · simp only [pk, i64_w, i32_w]; rfl
       refine take_ (i := 4) (N := some 62) (v := ?_) (a' := ?_) #[I, I, O, I, I, O, O, O, O, O, O, O, O, O, O, O, O, O] rfl rfl (take_ofW HT_.out HW_.out (by kernel_rfl)) (fun _ _ _ h => h) (Or.inl ⟨by rfl, ?_⟩) hHeld ?_ ?_
       rotate_left; · rintro w' ⟨s0, s1, s2, s3⟩; go_simp; with_reducible rfl
       rotate_left; · simp only [pk, i64_w, i32_w]; rfl
       refine pure_ (i := 5) (N := some 63) (v := ?_) (a' := ?_) #[I, I, O, I, I, I, O, O, O, O, O, O, O, O, O, O, O, O] rfl rfl (any_of HT_.out (by kernel_rfl)) (fun _ _ _ h => h) (Or.inl ⟨by rfl, ?_⟩) ?_ ?_
       rotate_left; · intro w'; go_simp; with_reducible rfl
       rotate_left; · simp only [pk, i64_w, i32_w]; rfl
       refine one_ (i := 2) (N := some 60) #[I, I, I, I, I, I, O, O, O, O, O, O, O, O, O, O, O, O] rfl rfl (one_of HT_.out (by kernel_rfl)) (by decide) (fun K hK => ?_)
       refine goes_ Tryd.func50 (by kernel_rfl) rfl #[.int .i64 ((rd_T52 l0 a1).f0)] (by rfl) rfl rfl (by (try simp only [lm]); first | done | rfl | (simp only [List.length_drop, List.length_take]; rfl)) ?_
       with_reducible refine (spec_l04Named.calls ((rd_T52 l0 a1).f0) t141 _ A27.out).mono ?_
       rintro e w' ⟨rfl, ⟨nd, rfl⟩⟩
       refine ⟨_, rfl, ?_⟩
       refine hK.out _ _ ⟨(blk_cell BK136.out 0).trans rfl, (blk_cell BK136.out 1).trans rfl, (blk_cell BK136.out 2).trans rfl, (blk_cell BK136.out 3).trans rfl⟩ (fun hHeld => ?_)
       clear hK K
       refine norm_ (a' := ?_) ?_ ?_
       rotate_left
       ·
        show Act.put _ (some 60) _ = _
        simp only [pk, i64_w, i32_w]
        rfl
       refine pure_ (i := 6) (N := some 64) (v := ?_) (a' := ?_) #[I, I, I, I, I, I, I, O, O, O, O, O, O, O, O, O, O, O] rfl rfl (any_of HT_.out (by kernel_rfl)) (fun _ _ _ h => h) (Or.inl ⟨by rfl, ?_⟩) ?_ ?_
       rotate_left; · intro w'; go_simp; with_reducible rfl
       rotate_left; · simp only [pk, i64_w, i32_w]; rfl
       refine pure_ (i := 7) (N := some 65) (v := ?_) (a' := ?_) #[I, I, I, I, I, I, I, I, O, O, O, O, O, O, O, O, O, O] rfl rfl (any_of HT_.out (by kernel_rfl)) (fun _ _ _ h => h) (Or.inl ⟨by rfl, ?_⟩) ?_ ?_
       rotate_left; · intro w'; go_simp; with_reducible rfl
       rotate_left; · simp only [pk, i64_w, i32_w]; rfl
       refine pure_ (i := 8) (N := some 66) (v := undef) (a' := ?_) #[I, I, I, I, I, I, I, I, I, O, O, O, O, O, O, O, O, O] rfl rfl (any_of HT_.out (by kernel_rfl)) (fun _ _ _ h => h) (Or.inr ⟨by rfl, rfl⟩) ?_ ?_
       rotate_left; · simp only [pk, i64_w, i32_w]; rfl
       refine pure_ (i := 9) (N := some 67) (v := undef) (a' := ?_) #[I, I, I, I, I, I, I, I, I, I, O, O, O, O, O, O, O, O] rfl rfl (any_of HT_.out (by kernel_rfl)) (fun _ _ _ h => h) (Or.inr ⟨by rfl, rfl⟩) ?_ ?_
       rotate_left; · simp only [pk, i64_w, i32_w]; rfl
       refine pure_ (i := 10) (N := some 68) (v := undef) (a' := ?_) #[I, I, I, I, I, I, I, I, I, I, I, O, O, O, O, O, O, O] rfl rfl (any_of HT_.out (by kernel_rfl)) (fun _ _ _ h => h) (Or.inr ⟨by rfl, rfl⟩) ?_ ?_
       rotate_left; · simp only [pk, i64_w, i32_w]; rfl
       refine pure_ (i := 11) (N := some 69) (v := undef) (a' := ?_) #[I, I, I, I, I, I, I, I, I, I, I, I, O, O, O, O, O, O] rfl rfl (any_of HT_.out (by kernel_rfl)) (fun _ _ _ h => h) (Or.inr ⟨by rfl, rfl⟩) ?_ ?_
       rotate_left; · simp only [pk, i64_w, i32_w]; rfl
       refine pure_ (i := 12) (N := some 70) (v := undef) (a' := ?_) #[I, I, I, I, I, I, I, I, I, I, I, I, I, O, O, O, O, O] rfl rfl (any_of HT_.out (by kernel_rfl)) (fun _ _ _ h => h) (Or.inr ⟨by rfl, rfl⟩) ?_ ?_
       rotate_left; · simp only [pk, i64_w, i32_w]; rfl
       refine pure_ (i := 13) (N := some 71) (v := undef) (a' := ?_) #[I, I, I, I, I, I, I, I, I, I, I, I, I, I, O, O, O, O] rfl rfl (any_of HT_.out (by kernel_rfl)) (fun _ _ _ h => h) (Or.inr ⟨by rfl, rfl⟩) ?_ ?_
       rotate_left; · simp only [pk, i64_w, i32_w]; rfl
       refine pure_ (i := 14) (N := some 72) (v := undef) (a' := ?_) #[I, I, I, I, I, I, I, I, I, I, I, I, I, I, I, O, O, O] rfl rfl (any_of HT_.out (by kernel_rfl)) (fun _ _ _ h => h) (Or.inr ⟨by rfl, rfl⟩) ?_ ?_
       rotate_left; · simp only [pk, i64_w, i32_w]; rfl
       refine pure_ (i := 15) (N := some 73) (v := undef) (a' := ?_) #[I, I, I, I, I, I, I, I, I, I, I, I, I, I, I, I, O, O] rfl rfl (any_of HT_.out (by kernel_rfl)) (fun _ _ _ h => h) (Or.inr ⟨by rfl, rfl⟩) ?_ ?_
       rotate_left; · simp only [pk, i64_w, i32_w]; rfl
       refine pure_ (i := 16) (N := some 74) (v := undef) (a' := ?_) #[I, I, I, I, I, I, I, I, I, I, I, I, I, I, I, I, I, O] rfl rfl (any_of HT_.out (by kernel_rfl)) (fun _ _ _ h => h) (Or.inr ⟨by rfl, rfl⟩) ?_ ?_
       rotate_left; · simp only [pk, i64_w, i32_w]; rfl
       refine pure_ (i := 17) (N := some 75) (v := ?_) (a' := ?_) #[I, I, I, I, I, I, I, I, I, I, I, I, I, I, I, I, I, I] rfl rfl (any_of HT_.out (by kernel_rfl)) (fun _ _ _ h => h) (Or.inl ⟨by rfl, ?_⟩) ?_ ?_
       rotate_left; · intro w'; go_simp; with_reducible rfl
       rotate_left; · simp only [pk, i64_w, i32_w]; rfl
       refine done_ (done_of HT_.out (by kernel_rfl)) ?_
       try go_wp2
       go_meet
       case rel => exact ⟨_, (true), (by first | rfl | (simp; done) | (simp [*]; done)), H', ⟨by have := HJ2.out; have := HJ12.out; first | omega | exact Nat.le_refl _⟩, ⟨bx BK136.out⟩, ⟨be w⟩⟩
      rw [if_neg c28] at H
      have c28b0 : (t141 != (((rd_T52 l0 a1).f2).toList != ([] : List UInt8))) = false := by simpa using c28
      have c28b5 : (t141 == !(((rd_T52 l0 a1).f2).toList).isEmpty) = true := bne_ne_nil c28b0
      (try (have c28b1 : decide (t141 = (((rd_T52 l0 a1).f2).toList != ([] : List UInt8))) = true := by simpa using c28))
      (try (have c28b2 : (t141 == (((rd_T52 l0 a1).f2).toList != ([] : List UInt8))) = true := by simpa using c28))
      clear c28
      (first | rw [c28b0] | (simp only [i64_w, i32_w]; rw [c28b0]) | rw [c28b2] | skip)
      by_cases c30 : ((rd_T52 l0 a1).f2).toList = ([] : List UInt8)
      ·
       rw [if_pos c30] at H
       have c30b0 : (((rd_T52 l0 a1).f2).toList == ([] : List UInt8)) = true := beq_iff_eq.mpr c30
       have c30b6 : t141 = false := is_nil_true c28b5 c30b0
       have c30b5 : (((rd_T52 l0 a1).f2).toList).isEmpty = true := nil_is_true c30b0
       clear c28b5
       have c30b1 : (((rd_T52 l0 a1).f2).toList != ([] : List UInt8)) = false := bne_eq_false_iff_eq.mpr c30
       clear c30
       have H' := As.mk H
       clear H
       try go_wp2
       replace BK136 := As.mk (blk_drew BK136.out)
       replace HB := As.mk (below_drew1 HB.out)
       refine start_ (n := 18) (S := fun w' => w'.cell? ⟨gb136, 0, none⟩ = some (.int .i64 ((rd_T52 l0 a1).f0)) ∧ w'.cell? ⟨gb136, 1, none⟩ = some (.int .i64 ((rd_T52 l0 a1).f1)) ∧ w'.cell? ⟨gb136, 2, none⟩ = some (.string ((rd_T52 l0 a1).f2)) ∧ w'.cell? ⟨gb136, 3, none⟩ = some (.slice A135_3 ((rd_T52 l0 a1).f3).length c135_3)) (ds := []) #[O, O, O, O, O, O, O, O, O, O, O, O, O, O, O, O, O, O] (by kernel_rfl) rfl rfl ⟨(blk_cell BK136.out 0).trans rfl, (blk_cell BK136.out 1).trans rfl, (blk_cell BK136.out 2).trans rfl, (blk_cell BK136.out 3).trans rfl⟩ (fun hHeld => ?_); refine with_tabW spec_NodeOk.tab7 spec_NodeOk.bits7 (fun HT_ HW_ => ?_)
       generalize wc.drew = w31 at BK136 HB hHeld ⊢
       refine pure_ (i := 0) (N := some 58) (v := ?_) (a' := ?_) #[I, O, O, O, O, O, O, O, O, O, O, O, O, O, O, O, O, O] rfl rfl (any_of HT_.out (by kernel_rfl)) (fun _ _ _ h => h) (Or.inl ⟨by rfl, ?_⟩) ?_ ?_
       rotate_left; · intro w'; go_simp; with_reducible rfl
       rotate_left; · simp only [pk, i64_w, i32_w]; rfl
       refine pure_ (i := 3) (N := some 61) (v := ?_) (a' := ?_) #[I, O, O, I, O, O, O, O, O, O, O, O, O, O, O, O, O, O] rfl rfl (any_of HT_.out (by kernel_rfl)) (fun _ _ _ h => h) (Or.inl ⟨by rfl, ?_⟩) ?_ ?_
       rotate_left; · intro w'; go_simp; with_reducible rfl
       rotate_left; · simp only [pk, i64_w, i32_w]; rfl
       refine take_ (i := 1) (N := some 59) (v := ?_) (a' := ?_) #[I, I, O, I, O, O, O, O, O, O, O, O, O, O, O, O, O, O] rfl rfl (take_ofW HT_.out HW_.out (by kernel_rfl)) (fun _ _ _ h => h) (Or.inl ⟨by rfl, ?_⟩) hHeld ?_ ?_
       rotate_left; · rintro w' ⟨s0, s1, s2, s3⟩; go_simp; with_reducible rfl
       rotate_left; · simp only [pk, i64_w, i32_w]; rfl
       refine take_ (i := 4) (N := some 62) (v := ?_) (a' := ?_) #[I, I, O, I, I, O, O, O, O, O, O, O, O, O, O, O, O, O] rfl rfl (take_ofW HT_.out HW_.out (by kernel_rfl)) (fun _ _ _ h => h) (Or.inl ⟨by rfl, ?_⟩) hHeld ?_ ?_
       rotate_left; · rintro w' ⟨s0, s1, s2, s3⟩; go_simp; with_reducible rfl
       rotate_left; · simp only [pk, i64_w, i32_w]; rfl
       refine pure_ (i := 5) (N := some 63) (v := ?_) (a' := ?_) #[I, I, O, I, I, I, O, O, O, O, O, O, O, O, O, O, O, O] rfl rfl (any_of HT_.out (by kernel_rfl)) (fun _ _ _ h => h) (Or.inl ⟨by rfl, ?_⟩) ?_ ?_
       rotate_left; · intro w'; go_simp; with_reducible rfl
       rotate_left; · simp only [pk, i64_w, i32_w]; rfl
       refine one_ (i := 2) (N := some 60) #[I, I, I, I, I, I, O, O, O, O, O, O, O, O, O, O, O, O] rfl rfl (one_of HT_.out (by kernel_rfl)) (by decide) (fun K hK => ?_)
       refine goes_ Tryd.func50 (by kernel_rfl) rfl #[.int .i64 ((rd_T52 l0 a1).f0)] (by rfl) rfl rfl (by (try simp only [lm]); first | done | rfl | (simp only [List.length_drop, List.length_take]; rfl)) ?_
       with_reducible refine (spec_l04Named.calls ((rd_T52 l0 a1).f0) t141 _ A27.out).mono ?_
       rintro e w' ⟨rfl, ⟨nd, rfl⟩⟩
       refine ⟨_, rfl, ?_⟩
       refine hK.out _ _ ⟨(blk_cell BK136.out 0).trans rfl, (blk_cell BK136.out 1).trans rfl, (blk_cell BK136.out 2).trans rfl, (blk_cell BK136.out 3).trans rfl⟩ (fun hHeld => ?_)
       clear hK K
       refine norm_ (a' := ?_) ?_ ?_
       rotate_left
       ·
        show Act.put _ (some 60) _ = _
        simp only [pk, i64_w, i32_w]
        rfl
       refine pure_ (i := 6) (N := some 64) (v := ?_) (a' := ?_) #[I, I, I, I, I, I, I, O, O, O, O, O, O, O, O, O, O, O] rfl rfl (any_of HT_.out (by kernel_rfl)) (fun _ _ _ h => h) (Or.inl ⟨by rfl, ?_⟩) ?_ ?_
       rotate_left; · intro w'; go_simp; with_reducible rfl
       rotate_left; · simp only [pk, i64_w, i32_w]; rfl
       refine pure_ (i := 7) (N := some 65) (v := ?_) (a' := ?_) #[I, I, I, I, I, I, I, I, O, O, O, O, O, O, O, O, O, O] rfl rfl (any_of HT_.out (by kernel_rfl)) (fun _ _ _ h => h) (Or.inl ⟨by rfl, ?_⟩) ?_ ?_
       rotate_left; · intro w'; go_simp; with_reducible rfl
       rotate_left; · simp only [pk, i64_w, i32_w]; rfl
       refine pure_ (i := 8) (N := some 66) (v := ?_) (a' := ?_) #[I, I, I, I, I, I, I, I, I, O, O, O, O, O, O, O, O, O] rfl rfl (any_of HT_.out (by kernel_rfl)) (fun _ _ _ h => h) (Or.inl ⟨by rfl, ?_⟩) ?_ ?_
       rotate_left; · intro w'; go_simp; with_reducible rfl
       rotate_left; · simp only [pk, i64_w, i32_w]; rfl
       refine take_ (i := 9) (N := some 67) (v := ?_) (a' := ?_) #[I, I, I, I, I, I, I, I, I, I, O, O, O, O, O, O, O, O] rfl rfl (take_ofW HT_.out HW_.out (by kernel_rfl)) (fun _ _ _ h => h) (Or.inl ⟨by rfl, ?_⟩) hHeld ?_ ?_
       rotate_left; · rintro w' ⟨s0, s1, s2, s3⟩; go_simp; with_reducible rfl
       rotate_left; · simp only [pk, i64_w, i32_w]; rfl
       refine pure_ (i := 10) (N := some 68) (v := ?_) (a' := ?_) #[I, I, I, I, I, I, I, I, I, I, I, O, O, O, O, O, O, O] rfl rfl (any_of HT_.out (by kernel_rfl)) (fun _ _ _ h => h) (Or.inl ⟨by rfl, ?_⟩) ?_ ?_
       rotate_left; · intro w'; go_simp; with_reducible rfl
       rotate_left; · simp only [pk, i64_w, i32_w]; rfl
       refine pure_ (i := 11) (N := some 69) (v := ?_) (a' := ?_) #[I, I, I, I, I, I, I, I, I, I, I, I, O, O, O, O, O, O] rfl rfl (any_of HT_.out (by kernel_rfl)) (fun _ _ _ h => h) (Or.inl ⟨by rfl, ?_⟩) ?_ ?_
       rotate_left; · intro w'; go_simp; with_reducible rfl
       rotate_left; · simp only [pk, i64_w, i32_w]; rfl
       refine pure_ (i := 12) (N := some 70) (v := undef) (a' := ?_) #[I, I, I, I, I, I, I, I, I, I, I, I, I, O, O, O, O, O] rfl rfl (any_of HT_.out (by kernel_rfl)) (fun _ _ _ h => h) (Or.inr ⟨by rfl, rfl⟩) ?_ ?_
       rotate_left; · simp only [pk, i64_w, i32_w]; rfl
       refine pure_ (i := 13) (N := some 71) (v := undef) (a' := ?_) #[I, I, I, I, I, I, I, I, I, I, I, I, I, I, O, O, O, O] rfl rfl (any_of HT_.out (by kernel_rfl)) (fun _ _ _ h => h) (Or.inr ⟨by rfl, rfl⟩) ?_ ?_
       rotate_left; · simp only [pk, i64_w, i32_w]; rfl
       refine pure_ (i := 14) (N := some 72) (v := undef) (a' := ?_) #[I, I, I, I, I, I, I, I, I, I, I, I, I, I, I, O, O, O] rfl rfl (any_of HT_.out (by kernel_rfl)) (fun _ _ _ h => h) (Or.inr ⟨by rfl, rfl⟩) ?_ ?_
       rotate_left; · simp only [pk, i64_w, i32_w]; rfl
       refine pure_ (i := 15) (N := some 73) (v := undef) (a' := ?_) #[I, I, I, I, I, I, I, I, I, I, I, I, I, I, I, I, O, O] rfl rfl (any_of HT_.out (by kernel_rfl)) (fun _ _ _ h => h) (Or.inr ⟨by rfl, rfl⟩) ?_ ?_
       rotate_left; · simp only [pk, i64_w, i32_w]; rfl
       refine pure_ (i := 16) (N := some 74) (v := ?_) (a' := ?_) #[I, I, I, I, I, I, I, I, I, I, I, I, I, I, I, I, I, O] rfl rfl (any_of HT_.out (by kernel_rfl)) (fun _ _ _ h => h) (Or.inl ⟨by rfl, ?_⟩) ?_ ?_
       rotate_left; · intro w'; go_simp; with_reducible rfl
       rotate_left; · simp only [pk, i64_w, i32_w]; rfl
       refine pure_ (i := 17) (N := some 75) (v := ?_) (a' := ?_) #[I, I, I, I, I, I, I, I, I, I, I, I, I, I, I, I, I, I] rfl rfl (any_of HT_.out (by kernel_rfl)) (fun _ _ _ h => h) (Or.inl ⟨by rfl, ?_⟩) ?_ ?_
       rotate_left; · intro w'; go_simp; with_reducible rfl
       rotate_left; · simp only [pk, i64_w, i32_w]; rfl
       refine done_ (done_of HT_.out (by kernel_rfl)) ?_
       try go_wp2
       go_meet
       case rel => exact ⟨_, (false), (by first | rfl | (simp; done) | (simp [*]; done)), H', ⟨by have := HJ2.out; have := HJ12.out; first | omega | exact Nat.le_refl _⟩, ⟨bx BK136.out⟩, ⟨be w⟩⟩
      rw [if_neg c30] at H
      have c30b0 : (((rd_T52 l0 a1).f2).toList == ([] : List UInt8)) = false := beq_eq_false_iff_ne.mpr c30
      have c30b6 : t141 = true := is_nil_false c28b5 c30b0
      have c30b5 : (((rd_T52 l0 a1).f2).toList).isEmpty = false := nil_is_false c30b0
      clear c28b5
      have c30b1 : (((rd_T52 l0 a1).f2).toList != ([] : List UInt8)) = true := bne_iff_ne.mpr c30
      obtain ⟨t142, A320, H⟩ := Option.bind_eq_some_iff.mp H
      try dsimp only at H
      have A32 := As.mk A320
      clear A320
      have H' := As.mk H
      clear H
      try go_wp2
      replace BK136 := As.mk (blk_drew BK136.out)
      replace HB := As.mk (below_drew1 HB.out)
      refine start_ (n := 18) (S := fun w' => w'.cell? ⟨gb136, 0, none⟩ = some (.int .i64 ((rd_T52 l0 a1).f0)) ∧ w'.cell? ⟨gb136, 1, none⟩ = some (.int .i64 ((rd_T52 l0 a1).f1)) ∧ w'.cell? ⟨gb136, 2, none⟩ = some (.string ((rd_T52 l0 a1).f2)) ∧ w'.cell? ⟨gb136, 3, none⟩ = some (.slice A135_3 ((rd_T52 l0 a1).f3).length c135_3)) (ds := []) #[O, O, O, O, O, O, O, O, O, O, O, O, O, O, O, O, O, O] (by kernel_rfl) rfl rfl ⟨(blk_cell BK136.out 0).trans rfl, (blk_cell BK136.out 1).trans rfl, (blk_cell BK136.out 2).trans rfl, (blk_cell BK136.out 3).trans rfl⟩ (fun hHeld => ?_); refine with_tabW spec_NodeOk.tab7 spec_NodeOk.bits7 (fun HT_ HW_ => ?_)
      generalize wc.drew = w33 at BK136 HB hHeld ⊢
      refine pure_ (i := 0) (N := some 58) (v := ?_) (a' := ?_) #[I, O, O, O, O, O, O, O, O, O, O, O, O, O, O, O, O, O] rfl rfl (any_of HT_.out (by kernel_rfl)) (fun _ _ _ h => h) (Or.inl ⟨by rfl, ?_⟩) ?_ ?_
      rotate_left; · intro w'; go_simp; with_reducible rfl
      rotate_left; · simp only [pk, i64_w, i32_w]; rfl
      refine pure_ (i := 3) (N := some 61) (v := ?_) (a' := ?_) #[I, O, O, I, O, O, O, O, O, O, O, O, O, O, O, O, O, O] rfl rfl (any_of HT_.out (by kernel_rfl)) (fun _ _ _ h => h) (Or.inl ⟨by rfl, ?_⟩) ?_ ?_
      rotate_left; · intro w'; go_simp; with_reducible rfl
      rotate_left; · simp only [pk, i64_w, i32_w]; rfl
      refine take_ (i := 1) (N := some 59) (v := ?_) (a' := ?_) #[I, I, O, I, O, O, O, O, O, O, O, O, O, O, O, O, O, O] rfl rfl (take_ofW HT_.out HW_.out (by kernel_rfl)) (fun _ _ _ h => h) (Or.inl ⟨by rfl, ?_⟩) hHeld ?_ ?_
      rotate_left; · rintro w' ⟨s0, s1, s2, s3⟩; go_simp; with_reducible rfl
      rotate_left; · simp only [pk, i64_w, i32_w]; rfl
      refine take_ (i := 4) (N := some 62) (v := ?_) (a' := ?_) #[I, I, O, I, I, O, O, O, O, O, O, O, O, O, O, O, O, O] rfl rfl (take_ofW HT_.out HW_.out (by kernel_rfl)) (fun _ _ _ h => h) (Or.inl ⟨by rfl, ?_⟩) hHeld ?_ ?_
      rotate_left; · rintro w' ⟨s0, s1, s2, s3⟩; go_simp; with_reducible rfl
      rotate_left; · simp only [pk, i64_w, i32_w]; rfl
      refine pure_ (i := 5) (N := some 63) (v := ?_) (a' := ?_) #[I, I, O, I, I, I, O, O, O, O, O, O, O, O, O, O, O, O] rfl rfl (any_of HT_.out (by kernel_rfl)) (fun _ _ _ h => h) (Or.inl ⟨by rfl, ?_⟩) ?_ ?_
      rotate_left; · intro w'; go_simp; with_reducible rfl
      rotate_left; · simp only [pk, i64_w, i32_w]; rfl
      refine one_ (i := 2) (N := some 60) #[I, I, I, I, I, I, O, O, O, O, O, O, O, O, O, O, O, O] rfl rfl (one_of HT_.out (by kernel_rfl)) (by decide) (fun K hK => ?_)
      refine goes_ Tryd.func50 (by kernel_rfl) rfl #[.int .i64 ((rd_T52 l0 a1).f0)] (by rfl) rfl rfl (by (try simp only [lm]); first | done | rfl | (simp only [List.length_drop, List.length_take]; rfl)) ?_
      with_reducible refine (spec_l04Named.calls ((rd_T52 l0 a1).f0) t141 _ A27.out).mono ?_
      rintro e w' ⟨rfl, ⟨nd, rfl⟩⟩
      refine ⟨_, rfl, ?_⟩
      refine hK.out _ _ ⟨(blk_cell BK136.out 0).trans rfl, (blk_cell BK136.out 1).trans rfl, (blk_cell BK136.out 2).trans rfl, (blk_cell BK136.out 3).trans rfl⟩ (fun hHeld => ?_)
      clear hK K
      refine norm_ (a' := ?_) ?_ ?_
      rotate_left
      ·
       show Act.put _ (some 60) _ = _
       simp only [pk, i64_w, i32_w]
       rfl
      refine pure_ (i := 6) (N := some 64) (v := ?_) (a' := ?_) #[I, I, I, I, I, I, I, O, O, O, O, O, O, O, O, O, O, O] rfl rfl (any_of HT_.out (by kernel_rfl)) (fun _ _ _ h => h) (Or.inl ⟨by rfl, ?_⟩) ?_ ?_
      rotate_left; · intro w'; go_simp; with_reducible rfl
      rotate_left; · simp only [pk, i64_w, i32_w]; rfl
      refine pure_ (i := 7) (N := some 65) (v := ?_) (a' := ?_) #[I, I, I, I, I, I, I, I, O, O, O, O, O, O, O, O, O, O] rfl rfl (any_of HT_.out (by kernel_rfl)) (fun _ _ _ h => h) (Or.inl ⟨by rfl, ?_⟩) ?_ ?_
      rotate_left; · intro w'; go_simp; with_reducible rfl
      rotate_left; · simp only [pk, i64_w, i32_w]; rfl
      refine pure_ (i := 8) (N := some 66) (v := ?_) (a' := ?_) #[I, I, I, I, I, I, I, I, I, O, O, O, O, O, O, O, O, O] rfl rfl (any_of HT_.out (by kernel_rfl)) (fun _ _ _ h => h) (Or.inl ⟨by rfl, ?_⟩) ?_ ?_
      rotate_left; · intro w'; go_simp; with_reducible rfl
      rotate_left; · simp only [pk, i64_w, i32_w]; rfl
      refine take_ (i := 9) (N := some 67) (v := ?_) (a' := ?_) #[I, I, I, I, I, I, I, I, I, I, O, O, O, O, O, O, O, O] rfl rfl (take_ofW HT_.out HW_.out (by kernel_rfl)) (fun _ _ _ h => h) (Or.inl ⟨by rfl, ?_⟩) hHeld ?_ ?_
      rotate_left; · rintro w' ⟨s0, s1, s2, s3⟩; go_simp; with_reducible rfl
      rotate_left; · simp only [pk, i64_w, i32_w]; rfl
      refine pure_ (i := 10) (N := some 68) (v := ?_) (a' := ?_) #[I, I, I, I, I, I, I, I, I, I, I, O, O, O, O, O, O, O] rfl rfl (any_of HT_.out (by kernel_rfl)) (fun _ _ _ h => h) (Or.inl ⟨by rfl, ?_⟩) ?_ ?_
      rotate_left; · intro w'; go_simp; with_reducible rfl
      rotate_left; · simp only [pk, i64_w, i32_w]; rfl
      refine pure_ (i := 11) (N := some 69) (v := ?_) (a' := ?_) #[I, I, I, I, I, I, I, I, I, I, I, I, O, O, O, O, O, O] rfl rfl (any_of HT_.out (by kernel_rfl)) (fun _ _ _ h => h) (Or.inl ⟨by rfl, ?_⟩) ?_ ?_
      rotate_left; · intro w'; go_simp; with_reducible rfl
      rotate_left; · simp only [pk, i64_w, i32_w]; rfl
      refine pure_ (i := 12) (N := some 70) (v := ?_) (a' := ?_) #[I, I, I, I, I, I, I, I, I, I, I, I, I, O, O, O, O, O] rfl rfl (any_of HT_.out (by kernel_rfl)) (fun _ _ _ h => h) (Or.inl ⟨by rfl, ?_⟩) ?_ ?_
      rotate_left; · intro w'; go_simp; with_reducible rfl
      rotate_left; · simp only [pk, i64_w, i32_w]; rfl
      refine take_ (i := 13) (N := some 71) (v := ?_) (a' := ?_) #[I, I, I, I, I, I, I, I, I, I, I, I, I, I, O, O, O, O] rfl rfl (take_ofW HT_.out HW_.out (by kernel_rfl)) (fun _ _ _ h => h) (Or.inl ⟨by rfl, ?_⟩) hHeld ?_ ?_
      rotate_left; · rintro w' ⟨s0, s1, s2, s3⟩; go_simp; with_reducible rfl
      rotate_left; · simp only [pk, i64_w, i32_w]; rfl
      refine one_ (i := 14) (N := some 72) #[I, I, I, I, I, I, I, I, I, I, I, I, I, I, I, O, O, O] rfl rfl (one_of HT_.out (by kernel_rfl)) (by decide) (fun K hK => ?_)
      refine goes_ Tryd.func51 (by kernel_rfl) rfl #[.string ((rd_T52 l0 a1).f2)] (by rfl) rfl rfl (by (try simp only [lm]); first | done | rfl | (simp only [List.length_drop, List.length_take]; rfl)) ?_
      with_reducible refine (spec_NameOk.calls kj12 ((rd_T52 l0 a1).f2) t142 _ A32.out).mono ?_
      rintro e w34 ⟨rfl, hb⟩
      refine ⟨_, rfl, ?_⟩
      replace BK136 := As.mk (blk_below (bx BK136.out) hb)
      replace HB := As.mk (below_step (be w) hb)
      (try clear hb)
      (try clear hb2)
      (try clear hk)
      (try clear hi)
      refine hK.out _ _ ⟨(blk_cell BK136.out 0).trans rfl, (blk_cell BK136.out 1).trans rfl, (blk_cell BK136.out 2).trans rfl, (blk_cell BK136.out 3).trans rfl⟩ (fun hHeld => ?_)
      clear hK K
      refine norm_ (a' := ?_) ?_ ?_
      rotate_left
      ·
       show Act.put _ (some 72) _ = _
       simp only [pk, i64_w, i32_w]
       rfl
      refine pure_ (i := 15) (N := some 73) (v := ?_) (a' := ?_) #[I, I, I, I, I, I, I, I, I, I, I, I, I, I, I, I, O, O] rfl rfl (any_of HT_.out (by kernel_rfl)) (fun _ _ _ h => h) (Or.inl ⟨by rfl, ?_⟩) ?_ ?_
      rotate_left; · intro w'; go_simp; with_reducible rfl
      rotate_left; · simp only [pk, i64_w, i32_w]; rfl
      refine pure_ (i := 16) (N := some 74) (v := ?_) (a' := ?_) #[I, I, I, I, I, I, I, I, I, I, I, I, I, I, I, I, I, O] rfl rfl (any_of HT_.out (by kernel_rfl)) (fun _ _ _ h => h) (Or.inl ⟨by rfl, ?_⟩) ?_ ?_
      rotate_left; · intro w'; go_simp; with_reducible rfl
      rotate_left; · simp only [pk, i64_w, i32_w]; rfl
      refine pure_ (i := 17) (N := some 75) (v := ?_) (a' := ?_) #[I, I, I, I, I, I, I, I, I, I, I, I, I, I, I, I, I, I] rfl rfl (any_of HT_.out (by kernel_rfl)) (fun _ _ _ h => h) (Or.inl ⟨by rfl, ?_⟩) ?_ ?_
      rotate_left; · intro w'; go_simp; with_reducible rfl
      rotate_left; · simp only [pk, i64_w, i32_w]; rfl
      refine done_ (done_of HT_.out (by kernel_rfl)) ?_
      try go_wp2
      go_meet
      case rel => exact ⟨_, (!t142), (by first | rfl | (simp; done) | (simp [*]; done)), H', ⟨by have := HJ2.out; have := HJ12.out; first | omega | exact Nat.le_refl _⟩, ⟨bx BK136.out⟩, ⟨be w⟩⟩
     case rest =>
      clear HC26
      (try clear c9); (try clear c10); (try clear c10b0); (try clear c11); (try clear c11b0); (try clear c25); (try clear hcz15_0); (try clear hcz15_1); (try clear hcz15_2); (try clear hcz15_3); (try clear hfz15_0); (try clear hfz15_1); (try clear hfz15_2); (try clear hfz15_3); (try clear hx135_0); (try clear hx135_1); (try clear hx135_2); (try clear hx135_3); (try clear p135); (try clear q135)
      obtain ⟨kq, x75_25, rfl, HA, HJ25, BK136, HB⟩ := hcut
      cases kq with
      | zero => exact absurd HA.out (by simp [spec_NodeOk.j2])
      | succ kj25 =>
       have H := HA.out
       clear HA
       simp only [spec_NodeOk.j2] at H
       by_cases c35 : x75_25 = true
       ·
        subst c35
        rw [if_pos rfl] at H
        obtain rfl := Option.some.inj H
        go_wp2
        go_ret
        exact ⟨ez, be w⟩
       replace c35 := Bool.eq_false_iff.mpr c35
       subst c35
       rw [if_neg (show ¬ (false = true) by decide)] at H
       have H' := As.mk H
       clear H
       go_wp2
       go_loopg [8] kj25 (fun kq v8 w' => ∃ (x8_4 : Int), v8 = .int .i64 x8_4 ∧ As (spec_NodeOk.l0 kq l0 a1 x8_4 ((rd_T52 l0 a1).f0) ((rd_T52 l0 a1).f1) ((rd_T52 l0 a1).f2) ((rd_T52 l0 a1).f3) = some r) ∧ As (kq ≤ kj25) ∧ As (w'.heap[gb136]? = some (.cells #[.int .i64 ((rd_T52 l0 a1).f0), .int .i64 ((rd_T52 l0 a1).f1), .string ((rd_T52 l0 a1).f2), (.slice A135_3 ((rd_T52 l0 a1).f3).length c135_3)] 52 (0, 0))) ∧ As (Below w.heap.size w w'))
       case atStart => exact ⟨(0), (by first | rfl | (simp; done) | (simp [*]; done)), H', ⟨Nat.le_refl _⟩, ⟨bx BK136.out⟩, ⟨be w⟩⟩
       case round =>
        clear H'
        (try clear c9); (try clear c10); (try clear c10b0); (try clear c11); (try clear c11b0); (try clear c25); (try clear c35); (try clear hcz15_0); (try clear hcz15_1); (try clear hcz15_2); (try clear hcz15_3); (try clear hfz15_0); (try clear hfz15_1); (try clear hfz15_2); (try clear hfz15_3); (try clear hx135_0); (try clear hx135_1); (try clear hx135_2); (try clear hx135_3); (try clear p135); (try clear q135)
        obtain ⟨x8_4, rfl, HA, HK4, BK136, HB⟩ := hrel
        cases gk with
        | zero => exact absurd HA.out (by simp [spec_NodeOk.l0])
        | succ k4 =>
         have H := HA.out
         clear HA
         simp only [spec_NodeOk.l0] at H
         by_cases c36 : x8_4 < (((rd_T52 l0 a1).f3).length : Int)
         rotate_left
         ·
          rw [if_neg c36] at H
          have c36b0 : decide (x8_4 < (((rd_T52 l0 a1).f3).length : Int)) = false := decide_eq_false c36
          clear c36
          obtain rfl := Option.some.inj H
          obtain ⟨hcz56_0, hcz56_1, hcz56_2, hcz56_3, hfz56_0, hfz56_1, hfz56_2, hfz56_3⟩ := cl4 BK136.out
          go_wp2
          go_ret
          exact ⟨ez, be w⟩
         rw [if_pos c36] at H
         have c36b0 : decide (x8_4 < (((rd_T52 l0 a1).f3).length : Int)) = true := decide_eq_true c36
         clear c36
         have HC37 := As.mk H
         clear H
         obtain ⟨hcz38_0, hcz38_1, hcz38_2, hcz38_3, hfz38_0, hfz38_1, hfz38_2, hfz38_3⟩ := cl4 BK136.out
         go_upto_region 12 with (fail)
         go_cut [107] (fun v107 wc => ∃ (kq : Nat) (x107_36 : Bool), v107 = .bool x107_36 ∧ As (spec_NodeOk.j4 kq l0 a1 x8_4 x107_36 ((rd_T52 l0 a1).f0) ((rd_T52 l0 a1).f1) ((rd_T52 l0 a1).f2) ((rd_T52 l0 a1).f3) = some r) ∧ As (kq ≤ k4) ∧ As (wc.heap[gb136]? = some (.cells #[.int .i64 ((rd_T52 l0 a1).f0), .int .i64 ((rd_T52 l0 a1).f1), .string ((rd_T52 l0 a1).f2), (.slice A135_3 ((rd_T52 l0 a1).f3).length c135_3)] 52 (0, 0))) ∧ As (Below w.heap.size w wc))
         case first =>
          have H := HC37.out
          clear HC37
          by_cases c39 : 0 ≤ x8_4
          rotate_left; · rw [if_neg c39] at H; exact absurd H (by simp)
          rw [if_pos c39] at H
          have c39b0 : decide (0 ≤ x8_4) = true := decide_eq_true c39
          clear c39
          (first | rw [c39b0] | (simp only [i64_w, i32_w]; rw [c39b0]) | skip)
          obtain ⟨t144, A400, H⟩ := Option.bind_eq_some_iff.mp H
          try dsimp only at H
          have A40 := As.mk A400
          clear A400
          by_cases c41 : t144 = true
          rotate_left
          ·
           replace c41 := Bool.eq_false_iff.mpr c41
           subst c41
           rw [if_neg (show ¬ (false = true) by decide)] at H
           have H' := As.mk H
           clear H
           try go_wp2
           replace BK136 := As.mk (blk_drew BK136.out)
           replace HB := As.mk (below_drew1 HB.out)
           have p143 : 0 ≤ (x8_4 : Int) := od
           have q143 : x8_4 < (((rd_T52 l0 a1).f3).length : Int) := od
           obtain ⟨ad143, e143, hx143_0⟩ := Kd.at_int HR135_3.out x8_4 p143 q143
           have hw143_0 := hx143_0
           cases e143
           replace hx143_0 := ce HB.out hx143_0
           replace p143 := eq_true p143
           replace q143 := eq_true q143
           refine start_ (n := 25) (S := fun w' => w'.cell? ⟨gb136, 0, none⟩ = some (.int .i64 ((rd_T52 l0 a1).f0)) ∧ w'.cell? ⟨gb136, 1, none⟩ = some (.int .i64 ((rd_T52 l0 a1).f1)) ∧ w'.cell? ⟨gb136, 2, none⟩ = some (.string ((rd_T52 l0 a1).f2)) ∧ w'.cell? ⟨gb136, 3, none⟩ = some (.slice (some ad143) ((rd_T52 l0 a1).f3).length c135_3) ∧ w'.cell? (ad143.add (x8_4).toNat) = some (.int .i64 (rd ((rd_T52 l0 a1).f3) x8_4))) (ds := []) #[O, O, O, O, O, O, O, O, O, O, O, O, O, O, O, O, O, O, O, O, O, O, O, O, O] (by kernel_rfl) rfl rfl ⟨(blk_cell BK136.out 0).trans rfl, (blk_cell BK136.out 1).trans rfl, (blk_cell BK136.out 2).trans rfl, (blk_cell BK136.out 3).trans rfl, (ce HB.out hw143_0 :)⟩ (fun hHeld => ?_); refine with_tabW spec_NodeOk.tab12 spec_NodeOk.bits12 (fun HT_ HW_ => ?_)
           generalize wr.drew = w46 at BK136 HB hx143_0 hHeld ⊢
           refine pure_ (i := 0) (N := some 83) (v := ?_) (a' := ?_) #[I, O, O, O, O, O, O, O, O, O, O, O, O, O, O, O, O, O, O, O, O, O, O, O, O] rfl rfl (any_of HT_.out (by kernel_rfl)) (fun _ _ _ h => h) (Or.inl ⟨by rfl, ?_⟩) ?_ ?_
           rotate_left; · intro w'; go_simp; with_reducible rfl
           rotate_left; · simp only [pk, i64_w, i32_w]; rfl
           refine pure_ (i := 2) (N := some 85) (v := ?_) (a' := ?_) #[I, O, I, O, O, O, O, O, O, O, O, O, O, O, O, O, O, O, O, O, O, O, O, O, O] rfl rfl (any_of HT_.out (by kernel_rfl)) (fun _ _ _ h => h) (Or.inl ⟨by rfl, ?_⟩) ?_ ?_
           rotate_left; · intro w'; go_simp; with_reducible rfl
           rotate_left; · simp only [pk, i64_w, i32_w]; rfl
           refine pure_ (i := 5) (N := some 88) (v := ?_) (a' := ?_) #[I, O, I, O, O, I, O, O, O, O, O, O, O, O, O, O, O, O, O, O, O, O, O, O, O] rfl rfl (any_of HT_.out (by kernel_rfl)) (fun _ _ _ h => h) (Or.inl ⟨by rfl, ?_⟩) ?_ ?_
           rotate_left; · intro w'; go_simp; with_reducible rfl
           rotate_left; · simp only [pk, i64_w, i32_w]; rfl
           refine pure_ (i := 6) (N := some 89) (v := ?_) (a' := ?_) #[I, O, I, O, O, I, I, O, O, O, O, O, O, O, O, O, O, O, O, O, O, O, O, O, O] rfl rfl (any_of HT_.out (by kernel_rfl)) (fun _ _ _ h => h) (Or.inl ⟨by rfl, ?_⟩) ?_ ?_
           rotate_left; · intro w'; go_simp; with_reducible rfl
           rotate_left; · simp only [pk, i64_w, i32_w]; rfl
           refine take_ (i := 1) (N := some 84) (v := ?_) (a' := ?_) #[I, I, I, O, O, I, I, O, O, O, O, O, O, O, O, O, O, O, O, O, O, O, O, O, O] rfl rfl (take_ofW HT_.out HW_.out (by kernel_rfl)) (fun _ _ _ h => h) (Or.inl ⟨by rfl, ?_⟩) hHeld ?_ ?_
           rotate_left; · rintro w' ⟨s0, s1, s2, s3, s4⟩; go_simp; with_reducible rfl
           rotate_left; · simp only [pk, i64_w, i32_w]; rfl
           refine pure_ (i := 3) (N := some 86) (v := ?_) (a' := ?_) #[I, I, I, I, O, I, I, O, O, O, O, O, O, O, O, O, O, O, O, O, O, O, O, O, O] rfl rfl (any_of HT_.out (by kernel_rfl)) (fun _ _ _ h => h) (Or.inl ⟨by rfl, ?_⟩) ?_ ?_
           rotate_left; · intro w'; go_simp; with_reducible rfl
           rotate_left; · simp only [pk, i64_w, i32_w]; rfl
           refine take_ (i := 4) (N := some 87) (v := ?_) (a' := ?_) #[I, I, I, I, I, I, I, O, O, O, O, O, O, O, O, O, O, O, O, O, O, O, O, O, O] rfl rfl (take_ofW HT_.out HW_.out (by kernel_rfl)) (fun _ _ _ h => h) (Or.inl ⟨by rfl, ?_⟩) hHeld ?_ ?_
           rotate_left; · rintro w' ⟨s0, s1, s2, s3, s4⟩; go_simp; with_reducible rfl
           rotate_left; · simp only [pk, i64_w, i32_w]; rfl
           refine one_ (i := 7) (N := some 90) #[I, I, I, I, I, I, I, I, O, O, O, O, O, O, O, O, O, O, O, O, O, O, O, O, O] rfl rfl (one_of HT_.out (by kernel_rfl)) (by decide) (fun K hK => ?_)
           refine goes_ Tryd.func33 (by kernel_rfl) rfl #[.int .i64 (rd ((rd_T52 l0 a1).f3) x8_4), .int .i64 0, .int .i64 (wrap64 (a1 - 1))] (by rfl) rfl rfl (by (try simp only [lm]); first | done | rfl | (simp only [List.length_drop, List.length_take]; rfl)) ?_
           with_reducible refine (spec_l01In.calls (rd ((rd_T52 l0 a1).f3) x8_4) 0 (wrap64 (a1 - 1)) false _ A40.out).mono ?_
           rintro e w' ⟨rfl, ⟨nd, rfl⟩⟩
           refine ⟨_, rfl, ?_⟩
           refine hK.out _ _ ⟨(blk_cell BK136.out 0).trans rfl, (blk_cell BK136.out 1).trans rfl, (blk_cell BK136.out 2).trans rfl, (blk_cell BK136.out 3).trans rfl, (ce HB.out hw143_0 :)⟩ (fun hHeld => ?_)
           clear hK K
           refine norm_ (a' := ?_) ?_ ?_
           rotate_left
           ·
            show Act.put _ (some 90) _ = _
            simp only [pk, i64_w, i32_w]
            rfl
           refine pure_ (i := 8) (N := some 91) (v := ?_) (a' := ?_) #[I, I, I, I, I, I, I, I, I, O, O, O, O, O, O, O, O, O, O, O, O, O, O, O, O] rfl rfl (any_of HT_.out (by kernel_rfl)) (fun _ _ _ h => h) (Or.inl ⟨by rfl, ?_⟩) ?_ ?_
           rotate_left; · intro w'; go_simp; with_reducible rfl
           rotate_left; · simp only [pk, i64_w, i32_w]; rfl
           refine pure_ (i := 9) (N := some 92) (v := ?_) (a' := ?_) #[I, I, I, I, I, I, I, I, I, I, O, O, O, O, O, O, O, O, O, O, O, O, O, O, O] rfl rfl (any_of HT_.out (by kernel_rfl)) (fun _ _ _ h => h) (Or.inl ⟨by rfl, ?_⟩) ?_ ?_
           rotate_left; · intro w'; go_simp; with_reducible rfl
           rotate_left; · simp only [pk, i64_w, i32_w]; rfl
           refine pure_ (i := 10) (N := some 93) (v := undef) (a' := ?_) #[I, I, I, I, I, I, I, I, I, I, I, O, O, O, O, O, O, O, O, O, O, O, O, O, O] rfl rfl (any_of HT_.out (by kernel_rfl)) (fun _ _ _ h => h) (Or.inr ⟨by rfl, rfl⟩) ?_ ?_
           rotate_left; · simp only [pk, i64_w, i32_w]; rfl
           refine pure_ (i := 11) (N := some 94) (v := undef) (a' := ?_) #[I, I, I, I, I, I, I, I, I, I, I, I, O, O, O, O, O, O, O, O, O, O, O, O, O] rfl rfl (any_of HT_.out (by kernel_rfl)) (fun _ _ _ h => h) (Or.inr ⟨by rfl, rfl⟩) ?_ ?_
           rotate_left; · simp only [pk, i64_w, i32_w]; rfl
           refine pure_ (i := 12) (N := some 95) (v := undef) (a' := ?_) #[I, I, I, I, I, I, I, I, I, I, I, I, I, O, O, O, O, O, O, O, O, O, O, O, O] rfl rfl (any_of HT_.out (by kernel_rfl)) (fun _ _ _ h => h) (Or.inr ⟨by rfl, rfl⟩) ?_ ?_
           rotate_left; · simp only [pk, i64_w, i32_w]; rfl
           refine pure_ (i := 13) (N := some 96) (v := undef) (a' := ?_) #[I, I, I, I, I, I, I, I, I, I, I, I, I, I, O, O, O, O, O, O, O, O, O, O, O] rfl rfl (any_of HT_.out (by kernel_rfl)) (fun _ _ _ h => h) (Or.inr ⟨by rfl, rfl⟩) ?_ ?_
           rotate_left; · simp only [pk, i64_w, i32_w]; rfl
           refine pure_ (i := 14) (N := some 97) (v := undef) (a' := ?_) #[I, I, I, I, I, I, I, I, I, I, I, I, I, I, I, O, O, O, O, O, O, O, O, O, O] rfl rfl (any_of HT_.out (by kernel_rfl)) (fun _ _ _ h => h) (Or.inr ⟨by rfl, rfl⟩) ?_ ?_
           rotate_left; · simp only [pk, i64_w, i32_w]; rfl
           refine pure_ (i := 15) (N := some 98) (v := undef) (a' := ?_) #[I, I, I, I, I, I, I, I, I, I, I, I, I, I, I, I, O, O, O, O, O, O, O, O, O] rfl rfl (any_of HT_.out (by kernel_rfl)) (fun _ _ _ h => h) (Or.inr ⟨by rfl, rfl⟩) ?_ ?_
           rotate_left; · simp only [pk, i64_w, i32_w]; rfl
           refine pure_ (i := 16) (N := some 99) (v := undef) (a' := ?_) #[I, I, I, I, I, I, I, I, I, I, I, I, I, I, I, I, I, O, O, O, O, O, O, O, O] rfl rfl (any_of HT_.out (by kernel_rfl)) (fun _ _ _ h => h) (Or.inr ⟨by rfl, rfl⟩) ?_ ?_
           rotate_left; · simp only [pk, i64_w, i32_w]; rfl
           refine pure_ (i := 17) (N := some 100) (v := undef) (a' := ?_) #[I, I, I, I, I, I, I, I, I, I, I, I, I, I, I, I, I, I, O, O, O, O, O, O, O] rfl rfl (any_of HT_.out (by kernel_rfl)) (fun _ _ _ h => h) (Or.inr ⟨by rfl, rfl⟩) ?_ ?_
           rotate_left; · simp only [pk, i64_w, i32_w]; rfl
           refine pure_ (i := 18) (N := some 101) (v := undef) (a' := ?_) #[I, I, I, I, I, I, I, I, I, I, I, I, I, I, I, I, I, I, I, O, O, O, O, O, O] rfl rfl (any_of HT_.out (by kernel_rfl)) (fun _ _ _ h => h) (Or.inr ⟨by rfl, rfl⟩) ?_ ?_
           rotate_left; · simp only [pk, i64_w, i32_w]; rfl
           refine pure_ (i := 19) (N := some 102) (v := undef) (a' := ?_) #[I, I, I, I, I, I, I, I, I, I, I, I, I, I, I, I, I, I, I, I, O, O, O, O, O] rfl rfl (any_of HT_.out (by kernel_rfl)) (fun _ _ _ h => h) (Or.inr ⟨by rfl, rfl⟩) ?_ ?_
           rotate_left; · simp only [pk, i64_w, i32_w]; rfl
           refine pure_ (i := 20) (N := some 103) (v := undef) (a' := ?_) #[I, I, I, I, I, I, I, I, I, I, I, I, I, I, I, I, I, I, I, I, I, O, O, O, O] rfl rfl (any_of HT_.out (by kernel_rfl)) (fun _ _ _ h => h) (Or.inr ⟨by rfl, rfl⟩) ?_ ?_
           rotate_left; · simp only [pk, i64_w, i32_w]; rfl
           refine pure_ (i := 21) (N := some 104) (v := undef) (a' := ?_) #[I, I, I, I, I, I, I, I, I, I, I, I, I, I, I, I, I, I, I, I, I, I, O, O, O] rfl rfl (any_of HT_.out (by kernel_rfl)) (fun _ _ _ h => h) (Or.inr ⟨by rfl, rfl⟩) ?_ ?_
           rotate_left; · simp only [pk, i64_w, i32_w]; rfl
           refine pure_ (i := 22) (N := some 105) (v := undef) (a' := ?_) #[I, I, I, I, I, I, I, I, I, I, I, I, I, I, I, I, I, I, I, I, I, I, I, O, O] rfl rfl (any_of HT_.out (by kernel_rfl)) (fun _ _ _ h => h) (Or.inr ⟨by rfl, rfl⟩) ?_ ?_
           rotate_left; · simp only [pk, i64_w, i32_w]; rfl
           refine pure_ (i := 23) (N := some 106) (v := undef) (a' := ?_) #[I, I, I, I, I, I, I, I, I, I, I, I, I, I, I, I, I, I, I, I, I, I, I, I, O] rfl rfl (any_of HT_.out (by kernel_rfl)) (fun _ _ _ h => h) (Or.inr ⟨by rfl, rfl⟩) ?_ ?_
           rotate_left; · simp only [pk, i64_w, i32_w]; rfl
           refine pure_ (i := 24) (N := some 107) (v := ?_) (a' := ?_) #[I, I, I, I, I, I, I, I, I, I, I, I, I, I, I, I, I, I, I, I, I, I, I, I, I] rfl rfl (any_of HT_.out (by kernel_rfl)) (fun _ _ _ h => h) (Or.inl ⟨by rfl, ?_⟩) ?_ ?_
           rotate_left; · intro w'; go_simp; with_reducible rfl
           rotate_left; · simp only [pk, i64_w, i32_w]; rfl
           refine done_ (done_of HT_.out (by kernel_rfl)) ?_
           try go_wp2
           go_meet
           case rel => exact ⟨_, (true), (by first | rfl | (simp; done) | (simp [*]; done)), H', ⟨by have := HJ2.out; have := HJ12.out; have := HJ25.out; have := HK4.out; first | omega | exact Nat.le_refl _⟩, ⟨bx BK136.out⟩, ⟨be w⟩⟩
          subst c41
          rw [if_pos rfl] at H
          by_cases c42 : 0 ≤ (rd ((rd_T52 l0 a1).f3) x8_4)
          rotate_left; · rw [if_neg c42] at H; exact absurd H (by simp)
          rw [if_pos c42] at H
          have c42b0 : decide (0 ≤ (rd ((rd_T52 l0 a1).f3) x8_4)) = true := decide_eq_true c42
          clear c42
          by_cases c43 : (rd ((rd_T52 l0 a1).f3) x8_4) < (l0.length : Int)
          rotate_left; · rw [if_neg c43] at H; exact absurd H (by simp)
          rw [if_pos c43] at H
          have c43b0 : decide ((rd ((rd_T52 l0 a1).f3) x8_4) < (l0.length : Int)) = true := decide_eq_true c43
          clear c43
          obtain ⟨t147, A440, H⟩ := Option.bind_eq_some_iff.mp H
          try dsimp only at H
          have A44 := As.mk A440
          clear A440
          have H' := As.mk H
          clear H
          try go_wp2
          replace BK136 := As.mk (blk_drew BK136.out)
          replace HB := As.mk (below_drew1 HB.out)
          have p143 : 0 ≤ (x8_4 : Int) := od
          have q143 : x8_4 < (((rd_T52 l0 a1).f3).length : Int) := od
          obtain ⟨ad143, e143, hx143_0⟩ := Kd.at_int HR135_3.out x8_4 p143 q143
          have hw143_0 := hx143_0
          cases e143
          replace hx143_0 := ce HB.out hx143_0
          replace p143 := eq_true p143
          replace q143 := eq_true q143
          have p145 : 0 ≤ (x8_4 : Int) := od
          have q145 : x8_4 < (((rd_T52 l0 a1).f3).length : Int) := od
          obtain ⟨ad145, e145, hx145_0⟩ := Kd.at_int HR135_3.out x8_4 p145 q145
          have hw145_0 := hx145_0
          obtain rfl : ad143 = ad145 := (by injection e145)
          replace hx145_0 := ce HB.out hx145_0
          replace p145 := eq_true p145
          replace q145 := eq_true q145
          have p146 : 0 ≤ ((rd ((rd_T52 l0 a1).f3) x8_4) : Int) := od
          have q146 : (rd ((rd_T52 l0 a1).f3) x8_4) < (l0.length : Int) := od
          obtain ⟨ad146, A146_3, c146_3, e146, hx146_0, hx146_1, hx146_2, hx146_3, hl146_3, hi146_3⟩ := at_T52 HR0.out (rd ((rd_T52 l0 a1).f3) x8_4) p146 q146
          have hw146_3 := hx146_3
          have hw146_2 := hx146_2
          have hw146_1 := hx146_1
          have hw146_0 := hx146_0
          obtain rfl : ad135 = ad146 := (by injection e146)
          replace hx146_0 := ce HB.out hx146_0
          replace hx146_1 := ce HB.out hx146_1
          replace hx146_2 := ce HB.out hx146_2
          replace hx146_3 := ce HB.out hx146_3
          have HR146_3 := As.mk hi146_3
          have HC146_3 := As.mk hl146_3
          clear hi146_3 hl146_3
          replace p146 := eq_true p146
          replace q146 := eq_true q146
          refine start_ (n := 25) (S := fun w' => w'.cell? ⟨gb136, 0, none⟩ = some (.int .i64 ((rd_T52 l0 a1).f0)) ∧ w'.cell? ⟨gb136, 1, none⟩ = some (.int .i64 ((rd_T52 l0 a1).f1)) ∧ w'.cell? ⟨gb136, 2, none⟩ = some (.string ((rd_T52 l0 a1).f2)) ∧ w'.cell? ⟨gb136, 3, none⟩ = some (.slice (some ad143) ((rd_T52 l0 a1).f3).length c135_3) ∧ w'.cell? (ad143.add (x8_4).toNat) = some (.int .i64 (rd ((rd_T52 l0 a1).f3) x8_4)) ∧ w'.cell? (ad143.add (x8_4).toNat) = some (.int .i64 (rd ((rd_T52 l0 a1).f3) x8_4)) ∧ w'.cell? (ad135.add (((rd ((rd_T52 l0 a1).f3) x8_4)).toNat * 4)) = some (.int .i64 ((rd_T52 l0 (rd ((rd_T52 l0 a1).f3) x8_4)).f0)) ∧ w'.cell? ⟨(ad135.add (((rd ((rd_T52 l0 a1).f3) x8_4)).toNat * 4)).block, (ad135.add (((rd ((rd_T52 l0 a1).f3) x8_4)).toNat * 4)).off + 1, none⟩ = some (.int .i64 ((rd_T52 l0 (rd ((rd_T52 l0 a1).f3) x8_4)).f1)) ∧ w'.cell? ⟨(ad135.add (((rd ((rd_T52 l0 a1).f3) x8_4)).toNat * 4)).block, (ad135.add (((rd ((rd_T52 l0 a1).f3) x8_4)).toNat * 4)).off + 2, none⟩ = some (.string ((rd_T52 l0 (rd ((rd_T52 l0 a1).f3) x8_4)).f2)) ∧ w'.cell? ⟨(ad135.add (((rd ((rd_T52 l0 a1).f3) x8_4)).toNat * 4)).block, (ad135.add (((rd ((rd_T52 l0 a1).f3) x8_4)).toNat * 4)).off + 3, none⟩ = some (.slice A146_3 ((rd_T52 l0 (rd ((rd_T52 l0 a1).f3) x8_4)).f3).length c146_3)) (ds := []) #[O, O, O, O, O, O, O, O, O, O, O, O, O, O, O, O, O, O, O, O, O, O, O, O, O] (by kernel_rfl) rfl rfl ⟨(blk_cell BK136.out 0).trans rfl, (blk_cell BK136.out 1).trans rfl, (blk_cell BK136.out 2).trans rfl, (blk_cell BK136.out 3).trans rfl, (ce HB.out hw143_0 :), (ce HB.out hw145_0 :), (ce HB.out hw146_0 :), (ce HB.out hw146_1 :), (ce HB.out hw146_2 :), (ce HB.out hw146_3 :)⟩ (fun hHeld => ?_); refine with_tabW spec_NodeOk.tab12 spec_NodeOk.bits12 (fun HT_ HW_ => ?_)
          generalize wr.drew = w45 at BK136 HB HR146_3 hx143_0 hx145_0 hx146_0 hx146_1 hx146_2 hx146_3 hHeld ⊢
          refine pure_ (i := 0) (N := some 83) (v := ?_) (a' := ?_) #[I, O, O, O, O, O, O, O, O, O, O, O, O, O, O, O, O, O, O, O, O, O, O, O, O] rfl rfl (any_of HT_.out (by kernel_rfl)) (fun _ _ _ h => h) (Or.inl ⟨by rfl, ?_⟩) ?_ ?_
          rotate_left; · intro w'; go_simp; with_reducible rfl
          rotate_left; · simp only [pk, i64_w, i32_w]; rfl
          refine pure_ (i := 2) (N := some 85) (v := ?_) (a' := ?_) #[I, O, I, O, O, O, O, O, O, O, O, O, O, O, O, O, O, O, O, O, O, O, O, O, O] rfl rfl (any_of HT_.out (by kernel_rfl)) (fun _ _ _ h => h) (Or.inl ⟨by rfl, ?_⟩) ?_ ?_
          rotate_left; · intro w'; go_simp; with_reducible rfl
          rotate_left; · simp only [pk, i64_w, i32_w]; rfl
          refine pure_ (i := 5) (N := some 88) (v := ?_) (a' := ?_) #[I, O, I, O, O, I, O, O, O, O, O, O, O, O, O, O, O, O, O, O, O, O, O, O, O] rfl rfl (any_of HT_.out (by kernel_rfl)) (fun _ _ _ h => h) (Or.inl ⟨by rfl, ?_⟩) ?_ ?_
          rotate_left; · intro w'; go_simp; with_reducible rfl
          rotate_left; · simp only [pk, i64_w, i32_w]; rfl
          refine pure_ (i := 6) (N := some 89) (v := ?_) (a' := ?_) #[I, O, I, O, O, I, I, O, O, O, O, O, O, O, O, O, O, O, O, O, O, O, O, O, O] rfl rfl (any_of HT_.out (by kernel_rfl)) (fun _ _ _ h => h) (Or.inl ⟨by rfl, ?_⟩) ?_ ?_
          rotate_left; · intro w'; go_simp; with_reducible rfl
          rotate_left; · simp only [pk, i64_w, i32_w]; rfl
          refine take_ (i := 1) (N := some 84) (v := ?_) (a' := ?_) #[I, I, I, O, O, I, I, O, O, O, O, O, O, O, O, O, O, O, O, O, O, O, O, O, O] rfl rfl (take_ofW HT_.out HW_.out (by kernel_rfl)) (fun _ _ _ h => h) (Or.inl ⟨by rfl, ?_⟩) hHeld ?_ ?_
          rotate_left; · rintro w' ⟨s0, s1, s2, s3, s4, s5, s6, s7, s8, s9⟩; go_simp; with_reducible rfl
          rotate_left; · simp only [pk, i64_w, i32_w]; rfl
          refine pure_ (i := 3) (N := some 86) (v := ?_) (a' := ?_) #[I, I, I, I, O, I, I, O, O, O, O, O, O, O, O, O, O, O, O, O, O, O, O, O, O] rfl rfl (any_of HT_.out (by kernel_rfl)) (fun _ _ _ h => h) (Or.inl ⟨by rfl, ?_⟩) ?_ ?_
          rotate_left; · intro w'; go_simp; with_reducible rfl
          rotate_left; · simp only [pk, i64_w, i32_w]; rfl
          refine take_ (i := 4) (N := some 87) (v := ?_) (a' := ?_) #[I, I, I, I, I, I, I, O, O, O, O, O, O, O, O, O, O, O, O, O, O, O, O, O, O] rfl rfl (take_ofW HT_.out HW_.out (by kernel_rfl)) (fun _ _ _ h => h) (Or.inl ⟨by rfl, ?_⟩) hHeld ?_ ?_
          rotate_left; · rintro w' ⟨s0, s1, s2, s3, s4, s5, s6, s7, s8, s9⟩; go_simp; with_reducible rfl
          rotate_left; · simp only [pk, i64_w, i32_w]; rfl
          refine one_ (i := 7) (N := some 90) #[I, I, I, I, I, I, I, I, O, O, O, O, O, O, O, O, O, O, O, O, O, O, O, O, O] rfl rfl (one_of HT_.out (by kernel_rfl)) (by decide) (fun K hK => ?_)
          refine goes_ Tryd.func33 (by kernel_rfl) rfl #[.int .i64 (rd ((rd_T52 l0 a1).f3) x8_4), .int .i64 0, .int .i64 (wrap64 (a1 - 1))] (by rfl) rfl rfl (by (try simp only [lm]); first | done | rfl | (simp only [List.length_drop, List.length_take]; rfl)) ?_
          with_reducible refine (spec_l01In.calls (rd ((rd_T52 l0 a1).f3) x8_4) 0 (wrap64 (a1 - 1)) true _ A40.out).mono ?_
          rintro e w' ⟨rfl, ⟨nd, rfl⟩⟩
          refine ⟨_, rfl, ?_⟩
          refine hK.out _ _ ⟨(blk_cell BK136.out 0).trans rfl, (blk_cell BK136.out 1).trans rfl, (blk_cell BK136.out 2).trans rfl, (blk_cell BK136.out 3).trans rfl, (ce HB.out hw143_0 :), (ce HB.out hw145_0 :), (ce HB.out hw146_0 :), (ce HB.out hw146_1 :), (ce HB.out hw146_2 :), (ce HB.out hw146_3 :)⟩ (fun hHeld => ?_)
          clear hK K
          refine norm_ (a' := ?_) ?_ ?_
          rotate_left
          ·
           show Act.put _ (some 90) _ = _
           simp only [pk, i64_w, i32_w]
           rfl
          refine pure_ (i := 8) (N := some 91) (v := ?_) (a' := ?_) #[I, I, I, I, I, I, I, I, I, O, O, O, O, O, O, O, O, O, O, O, O, O, O, O, O] rfl rfl (any_of HT_.out (by kernel_rfl)) (fun _ _ _ h => h) (Or.inl ⟨by rfl, ?_⟩) ?_ ?_
          rotate_left; · intro w'; go_simp; with_reducible rfl
          rotate_left; · simp only [pk, i64_w, i32_w]; rfl
          refine pure_ (i := 9) (N := some 92) (v := ?_) (a' := ?_) #[I, I, I, I, I, I, I, I, I, I, O, O, O, O, O, O, O, O, O, O, O, O, O, O, O] rfl rfl (any_of HT_.out (by kernel_rfl)) (fun _ _ _ h => h) (Or.inl ⟨by rfl, ?_⟩) ?_ ?_
          rotate_left; · intro w'; go_simp; with_reducible rfl
          rotate_left; · simp only [pk, i64_w, i32_w]; rfl
          refine pure_ (i := 10) (N := some 93) (v := ?_) (a' := ?_) #[I, I, I, I, I, I, I, I, I, I, I, O, O, O, O, O, O, O, O, O, O, O, O, O, O] rfl rfl (any_of HT_.out (by kernel_rfl)) (fun _ _ _ h => h) (Or.inl ⟨by rfl, ?_⟩) ?_ ?_
          rotate_left; · intro w'; go_simp; with_reducible rfl
          rotate_left; · simp only [pk, i64_w, i32_w]; rfl
          refine pure_ (i := 12) (N := some 95) (v := ?_) (a' := ?_) #[I, I, I, I, I, I, I, I, I, I, I, O, I, O, O, O, O, O, O, O, O, O, O, O, O] rfl rfl (any_of HT_.out (by kernel_rfl)) (fun _ _ _ h => h) (Or.inl ⟨by rfl, ?_⟩) ?_ ?_
          rotate_left; · intro w'; go_simp; with_reducible rfl
          rotate_left; · simp only [pk, i64_w, i32_w]; rfl
          refine pure_ (i := 13) (N := some 96) (v := ?_) (a' := ?_) #[I, I, I, I, I, I, I, I, I, I, I, O, I, I, O, O, O, O, O, O, O, O, O, O, O] rfl rfl (any_of HT_.out (by kernel_rfl)) (fun _ _ _ h => h) (Or.inl ⟨by rfl, ?_⟩) ?_ ?_
          rotate_left; · intro w'; go_simp; with_reducible rfl
          rotate_left; · simp only [pk, i64_w, i32_w]; rfl
          refine pure_ (i := 14) (N := some 97) (v := ?_) (a' := ?_) #[I, I, I, I, I, I, I, I, I, I, I, O, I, I, I, O, O, O, O, O, O, O, O, O, O] rfl rfl (any_of HT_.out (by kernel_rfl)) (fun _ _ _ h => h) (Or.inl ⟨by rfl, ?_⟩) ?_ ?_
          rotate_left; · intro w'; go_simp; with_reducible rfl
          rotate_left; · simp only [pk, i64_w, i32_w]; rfl
          refine pure_ (i := 16) (N := some 99) (v := ?_) (a' := ?_) #[I, I, I, I, I, I, I, I, I, I, I, O, I, I, I, O, I, O, O, O, O, O, O, O, O] rfl rfl (any_of HT_.out (by kernel_rfl)) (fun _ _ _ h => h) (Or.inl ⟨by rfl, ?_⟩) ?_ ?_
          rotate_left; · intro w'; go_simp; with_reducible rfl
          rotate_left; · simp only [pk, i64_w, i32_w]; rfl
          refine take_ (i := 11) (N := some 94) (v := ?_) (a' := ?_) #[I, I, I, I, I, I, I, I, I, I, I, I, I, I, I, O, I, O, O, O, O, O, O, O, O] rfl rfl (take_ofW HT_.out HW_.out (by kernel_rfl)) (fun _ _ _ h => h) (Or.inl ⟨by rfl, ?_⟩) hHeld ?_ ?_
          rotate_left; · rintro w' ⟨s0, s1, s2, s3, s4, s5, s6, s7, s8, s9⟩; go_simp; with_reducible rfl
          rotate_left; · simp only [pk, i64_w, i32_w]; rfl
          refine take_ (i := 15) (N := some 98) (v := ?_) (a' := ?_) #[I, I, I, I, I, I, I, I, I, I, I, I, I, I, I, I, I, O, O, O, O, O, O, O, O] rfl rfl (take_ofW HT_.out HW_.out (by kernel_rfl)) (fun _ _ _ h => h) (Or.inl ⟨by rfl, ?_⟩) hHeld ?_ ?_
          rotate_left; · rintro w' ⟨s0, s1, s2, s3, s4, s5, s6, s7, s8, s9⟩; go_simp; with_reducible rfl
          rotate_left; · simp only [pk, i64_w, i32_w]; rfl
          refine pure_ (i := 17) (N := some 100) (v := ?_) (a' := ?_) #[I, I, I, I, I, I, I, I, I, I, I, I, I, I, I, I, I, I, O, O, O, O, O, O, O] rfl rfl (any_of HT_.out (by kernel_rfl)) (fun _ _ _ h => h) (Or.inl ⟨by rfl, ?_⟩) ?_ ?_
          rotate_left; · intro w'; go_simp; with_reducible rfl
          rotate_left; · simp only [pk, i64_w, i32_w]; rfl
          refine take_ (i := 18) (N := some 101) (v := ?_) (a' := ?_) #[I, I, I, I, I, I, I, I, I, I, I, I, I, I, I, I, I, I, I, O, O, O, O, O, O] rfl rfl (take_ofW HT_.out HW_.out (by kernel_rfl)) (fun _ _ _ h => h) (Or.inl ⟨by rfl, ?_⟩) hHeld ?_ ?_
          rotate_left; · rintro w' ⟨s0, s1, s2, s3, s4, s5, s6, s7, s8, s9⟩; go_simp; with_reducible rfl
          rotate_left; · simp only [pk, i64_w, i32_w]; rfl
          refine pure_ (i := 19) (N := some 102) (v := ?_) (a' := ?_) #[I, I, I, I, I, I, I, I, I, I, I, I, I, I, I, I, I, I, I, I, O, O, O, O, O] rfl rfl (any_of HT_.out (by kernel_rfl)) (fun _ _ _ h => h) (Or.inl ⟨by rfl, ?_⟩) ?_ ?_
          rotate_left; · intro w'; go_simp; with_reducible rfl
          rotate_left; · simp only [pk, i64_w, i32_w]; rfl
          refine pure_ (i := 20) (N := some 103) (v := ?_) (a' := ?_) #[I, I, I, I, I, I, I, I, I, I, I, I, I, I, I, I, I, I, I, I, I, O, O, O, O] rfl rfl (any_of HT_.out (by kernel_rfl)) (fun _ _ _ h => h) (Or.inl ⟨by rfl, ?_⟩) ?_ ?_
          rotate_left; · intro w'; go_simp; with_reducible rfl
          rotate_left; · simp only [pk, i64_w, i32_w]; rfl
          refine take_ (i := 21) (N := some 104) (v := ?_) (a' := ?_) #[I, I, I, I, I, I, I, I, I, I, I, I, I, I, I, I, I, I, I, I, I, I, O, O, O] rfl rfl (take_ofW HT_.out HW_.out (by kernel_rfl)) (fun _ _ _ h => h) (Or.inl ⟨by rfl, ?_⟩) hHeld ?_ ?_
          rotate_left; · rintro w' ⟨s0, s1, s2, s3, s4, s5, s6, s7, s8, s9⟩; go_simp; with_reducible rfl
          rotate_left; · simp only [pk, i64_w, i32_w]; rfl
          refine one_ (i := 22) (N := some 105) #[I, I, I, I, I, I, I, I, I, I, I, I, I, I, I, I, I, I, I, I, I, I, I, O, O] rfl rfl (one_of HT_.out (by kernel_rfl)) (by decide) (fun K hK => ?_)
          refine goes_ Tryd.func52 (by kernel_rfl) rfl #[.int .i64 ((rd_T52 l0 a1).f0), .int .i64 x8_4, .int .i64 ((rd_T52 l0 (rd ((rd_T52 l0 a1).f3) x8_4)).f0)] (by rfl) rfl rfl (by (try simp only [lm]); first | done | rfl | (simp only [List.length_drop, List.length_take]; rfl)) ?_
          with_reducible refine (spec_l04Fits.calls k4 ((rd_T52 l0 a1).f0) x8_4 ((rd_T52 l0 (rd ((rd_T52 l0 a1).f3) x8_4)).f0) t147 _ A44.out).mono ?_
          rintro e w' ⟨rfl, ⟨nd, rfl⟩⟩
          refine ⟨_, rfl, ?_⟩
          refine hK.out _ _ ⟨(blk_cell BK136.out 0).trans rfl, (blk_cell BK136.out 1).trans rfl, (blk_cell BK136.out 2).trans rfl, (blk_cell BK136.out 3).trans rfl, (ce HB.out hw143_0 :), (ce HB.out hw145_0 :), (ce HB.out hw146_0 :), (ce HB.out hw146_1 :), (ce HB.out hw146_2 :), (ce HB.out hw146_3 :)⟩ (fun hHeld => ?_)
          clear hK K
          refine norm_ (a' := ?_) ?_ ?_
          rotate_left
          ·
           show Act.put _ (some 105) _ = _
           simp only [pk, i64_w, i32_w]
           rfl
          refine pure_ (i := 23) (N := some 106) (v := ?_) (a' := ?_) #[I, I, I, I, I, I, I, I, I, I, I, I, I, I, I, I, I, I, I, I, I, I, I, I, O] rfl rfl (any_of HT_.out (by kernel_rfl)) (fun _ _ _ h => h) (Or.inl ⟨by rfl, ?_⟩) ?_ ?_
          rotate_left; · intro w'; go_simp; with_reducible rfl
          rotate_left; · simp only [pk, i64_w, i32_w]; rfl
          refine pure_ (i := 24) (N := some 107) (v := ?_) (a' := ?_) #[I, I, I, I, I, I, I, I, I, I, I, I, I, I, I, I, I, I, I, I, I, I, I, I, I] rfl rfl (any_of HT_.out (by kernel_rfl)) (fun _ _ _ h => h) (Or.inl ⟨by rfl, ?_⟩) ?_ ?_
          rotate_left; · intro w'; go_simp; with_reducible rfl
          rotate_left; · simp only [pk, i64_w, i32_w]; rfl
          refine done_ (done_of HT_.out (by kernel_rfl)) ?_
          try go_wp2
          go_meet
          case rel => exact ⟨_, (!t147), (by first | rfl | (simp; done) | (simp [*]; done)), H', ⟨by have := HJ2.out; have := HJ12.out; have := HJ25.out; have := HK4.out; first | omega | exact Nat.le_refl _⟩, ⟨bx BK136.out⟩, ⟨be w⟩⟩
         case rest =>
          clear HC37
          (try clear c9); (try clear c10); (try clear c10b0); (try clear c11); (try clear c11b0); (try clear c25); (try clear c35); (try clear c36); (try clear c36b0); (try clear hcz15_0); (try clear hcz15_1); (try clear hcz15_2); (try clear hcz15_3); (try clear hcz38_0); (try clear hcz38_1); (try clear hcz38_2); (try clear hcz38_3); (try clear hfz15_0); (try clear hfz15_1); (try clear hfz15_2); (try clear hfz15_3); (try clear hfz38_0); (try clear hfz38_1); (try clear hfz38_2); (try clear hfz38_3); (try clear hx135_0); (try clear hx135_1); (try clear hx135_2); (try clear hx135_3); (try clear p135); (try clear q135)
          obtain ⟨kq, x107_36, rfl, HA, HJ36, BK136, HB⟩ := hcut
          cases kq with
          | zero => exact absurd HA.out (by simp [spec_NodeOk.j4])
          | succ kj36 =>
           have H := HA.out
           clear HA
           simp only [spec_NodeOk.j4] at H
           by_cases c47 : x107_36 = true
           ·
            subst c47
            rw [if_pos rfl] at H
            obtain rfl := Option.some.inj H
            go_wp2
            go_ret
            exact ⟨ez, be w⟩
           replace c47 := Bool.eq_false_iff.mpr c47
           subst c47
           rw [if_neg (show ¬ (false = true) by decide)] at H
           have H' := As.mk H
           clear H
           go_wp2
           go_loopg [9] kj36 (fun kq v9 w' => ∃ (x9_6 : Int), v9 = .int .i64 x9_6 ∧ As (spec_NodeOk.l1 kq l0 a1 x8_4 x9_6 ((rd_T52 l0 a1).f0) ((rd_T52 l0 a1).f1) ((rd_T52 l0 a1).f2) ((rd_T52 l0 a1).f3) = some r) ∧ As (kq ≤ kj36) ∧ As (w'.heap[gb136]? = some (.cells #[.int .i64 ((rd_T52 l0 a1).f0), .int .i64 ((rd_T52 l0 a1).f1), .string ((rd_T52 l0 a1).f2), (.slice A135_3 ((rd_T52 l0 a1).f3).length c135_3)] 52 (0, 0))) ∧ As (Below w.heap.size w w'))
           case atStart => exact ⟨(0), (by first | rfl | (simp; done) | (simp [*]; done)), H', ⟨Nat.le_refl _⟩, ⟨bx BK136.out⟩, ⟨be w⟩⟩
           case round =>
            clear H'
            (try clear c9); (try clear c10); (try clear c10b0); (try clear c11); (try clear c11b0); (try clear c25); (try clear c35); (try clear c36); (try clear c36b0); (try clear c47); (try clear hcz15_0); (try clear hcz15_1); (try clear hcz15_2); (try clear hcz15_3); (try clear hcz38_0); (try clear hcz38_1); (try clear hcz38_2); (try clear hcz38_3); (try clear hfz15_0); (try clear hfz15_1); (try clear hfz15_2); (try clear hfz15_3); (try clear hfz38_0); (try clear hfz38_1); (try clear hfz38_2); (try clear hfz38_3); (try clear hx135_0); (try clear hx135_1); (try clear hx135_2); (try clear hx135_3); (try clear p135); (try clear q135)
            obtain ⟨x9_6, rfl, HA, HK6, BK136, HB⟩ := hrel
            cases gk with
            | zero => exact absurd HA.out (by simp [spec_NodeOk.l1])
            | succ k6 =>
             have H := HA.out
             clear HA
             simp only [spec_NodeOk.l1] at H
             by_cases c48 : x9_6 < x8_4
             rotate_left
             ·
              rw [if_neg c48] at H
              have c48b0 : decide (x9_6 < x8_4) = false := decide_eq_false c48
              clear c48
              have H' := As.mk H
              clear H
              go_wp2
              go_roundg k6
              case measure => have := HJ2.out; have := HJ12.out; have := HJ25.out; have := HK4.out; have := HJ36.out; have := HK6.out; omega
              case rel => exact ⟨(wrap64 (x8_4 + 1)), (by first | rfl | (simp; done) | (simp [*]; done)), H', ⟨by have := HJ2.out; have := HJ12.out; have := HJ25.out; have := HK4.out; have := HJ36.out; have := HK6.out; omega⟩, ⟨bx BK136.out⟩, ⟨be w⟩⟩
             rw [if_pos c48] at H
             have c48b0 : decide (x9_6 < x8_4) = true := decide_eq_true c48
             clear c48
             by_cases c49 : 0 ≤ x8_4
             rotate_left; · rw [if_neg c49] at H; exact absurd H (by simp)
             rw [if_pos c49] at H
             have c49b0 : decide (0 ≤ x8_4) = true := decide_eq_true c49
             clear c49
             by_cases c50 : x8_4 < (((rd_T52 l0 a1).f3).length : Int)
             rotate_left; · rw [if_neg c50] at H; exact absurd H (by simp)
             rw [if_pos c50] at H
             have c50b0 : decide (x8_4 < (((rd_T52 l0 a1).f3).length : Int)) = true := decide_eq_true c50
             clear c50
             by_cases c51 : 0 ≤ x9_6
             rotate_left; · rw [if_neg c51] at H; exact absurd H (by simp)
             rw [if_pos c51] at H
             have c51b0 : decide (0 ≤ x9_6) = true := decide_eq_true c51
             clear c51
             by_cases c52 : x9_6 < (((rd_T52 l0 a1).f3).length : Int)
             rotate_left; · rw [if_neg c52] at H; exact absurd H (by simp)
             rw [if_pos c52] at H
             have c52b0 : decide (x9_6 < (((rd_T52 l0 a1).f3).length : Int)) = true := decide_eq_true c52
             clear c52
             by_cases c53 : (rd ((rd_T52 l0 a1).f3) x8_4) = (rd ((rd_T52 l0 a1).f3) x9_6)
             ·
              rw [if_pos c53] at H
              have c53b0 : ((rd ((rd_T52 l0 a1).f3) x8_4) == (rd ((rd_T52 l0 a1).f3) x9_6)) = true := beq_iff_eq.mpr c53
              have c53b1 : ((rd ((rd_T52 l0 a1).f3) x8_4) != (rd ((rd_T52 l0 a1).f3) x9_6)) = false := bne_eq_false_iff_eq.mpr c53
              clear c53
              obtain rfl := Option.some.inj H
              try go_wp2
              replace BK136 := As.mk (blk_drew BK136.out)
              replace HB := As.mk (below_drew1 HB.out)
              have p148 : 0 ≤ (x8_4 : Int) := od
              have q148 : x8_4 < (((rd_T52 l0 a1).f3).length : Int) := od
              obtain ⟨ad148, e148, hx148_0⟩ := Kd.at_int HR135_3.out x8_4 p148 q148
              have hw148_0 := hx148_0
              cases e148
              replace hx148_0 := ce HB.out hx148_0
              replace p148 := eq_true p148
              replace q148 := eq_true q148
              have p149 : 0 ≤ (x9_6 : Int) := od
              have q149 : x9_6 < (((rd_T52 l0 a1).f3).length : Int) := od
              obtain ⟨ad149, e149, hx149_0⟩ := Kd.at_int HR135_3.out x9_6 p149 q149
              have hw149_0 := hx149_0
              obtain rfl : ad148 = ad149 := (by injection e149)
              replace hx149_0 := ce HB.out hx149_0
              replace p149 := eq_true p149
              replace q149 := eq_true q149
              refine start_ (n := 11) (S := fun w' => w'.cell? ⟨gb136, 0, none⟩ = some (.int .i64 ((rd_T52 l0 a1).f0)) ∧ w'.cell? ⟨gb136, 1, none⟩ = some (.int .i64 ((rd_T52 l0 a1).f1)) ∧ w'.cell? ⟨gb136, 2, none⟩ = some (.string ((rd_T52 l0 a1).f2)) ∧ w'.cell? ⟨gb136, 3, none⟩ = some (.slice (some ad148) ((rd_T52 l0 a1).f3).length c135_3) ∧ w'.cell? (ad148.add (x8_4).toNat) = some (.int .i64 (rd ((rd_T52 l0 a1).f3) x8_4)) ∧ w'.cell? (ad148.add (x9_6).toNat) = some (.int .i64 (rd ((rd_T52 l0 a1).f3) x9_6))) (ds := []) #[O, O, O, O, O, O, O, O, O, O, O] (by kernel_rfl) rfl rfl ⟨(blk_cell BK136.out 0).trans rfl, (blk_cell BK136.out 1).trans rfl, (blk_cell BK136.out 2).trans rfl, (blk_cell BK136.out 3).trans rfl, (ce HB.out hw148_0 :), (ce HB.out hw149_0 :)⟩ (fun hHeld => ?_); refine with_tabW spec_NodeOk.tab17 spec_NodeOk.bits17 (fun HT_ HW_ => ?_)
              generalize wr.drew = w54 at BK136 HB hx148_0 hx149_0 hHeld ⊢
              refine pure_ (i := 0) (N := some 113) (v := ?_) (a' := ?_) #[I, O, O, O, O, O, O, O, O, O, O] rfl rfl (any_of HT_.out (by kernel_rfl)) (fun _ _ _ h => h) (Or.inl ⟨by rfl, ?_⟩) ?_ ?_
              rotate_left; · intro w'; go_simp; with_reducible rfl
              rotate_left; · simp only [pk, i64_w, i32_w]; rfl
              refine pure_ (i := 2) (N := some 115) (v := ?_) (a' := ?_) #[I, O, I, O, O, O, O, O, O, O, O] rfl rfl (any_of HT_.out (by kernel_rfl)) (fun _ _ _ h => h) (Or.inl ⟨by rfl, ?_⟩) ?_ ?_
              rotate_left; · intro w'; go_simp; with_reducible rfl
              rotate_left; · simp only [pk, i64_w, i32_w]; rfl
              refine pure_ (i := 5) (N := some 118) (v := ?_) (a' := ?_) #[I, O, I, O, O, I, O, O, O, O, O] rfl rfl (any_of HT_.out (by kernel_rfl)) (fun _ _ _ h => h) (Or.inl ⟨by rfl, ?_⟩) ?_ ?_
              rotate_left; · intro w'; go_simp; with_reducible rfl
              rotate_left; · simp only [pk, i64_w, i32_w]; rfl
              refine pure_ (i := 7) (N := some 120) (v := ?_) (a' := ?_) #[I, O, I, O, O, I, O, I, O, O, O] rfl rfl (any_of HT_.out (by kernel_rfl)) (fun _ _ _ h => h) (Or.inl ⟨by rfl, ?_⟩) ?_ ?_
              rotate_left; · intro w'; go_simp; with_reducible rfl
              rotate_left; · simp only [pk, i64_w, i32_w]; rfl
              refine take_ (i := 1) (N := some 114) (v := ?_) (a' := ?_) #[I, I, I, O, O, I, O, I, O, O, O] rfl rfl (take_ofW HT_.out HW_.out (by kernel_rfl)) (fun _ _ _ h => h) (Or.inl ⟨by rfl, ?_⟩) hHeld ?_ ?_
              rotate_left; · rintro w' ⟨s0, s1, s2, s3, s4, s5⟩; go_simp; with_reducible rfl
              rotate_left; · simp only [pk, i64_w, i32_w]; rfl
              refine pure_ (i := 3) (N := some 116) (v := ?_) (a' := ?_) #[I, I, I, I, O, I, O, I, O, O, O] rfl rfl (any_of HT_.out (by kernel_rfl)) (fun _ _ _ h => h) (Or.inl ⟨by rfl, ?_⟩) ?_ ?_
              rotate_left; · intro w'; go_simp; with_reducible rfl
              rotate_left; · simp only [pk, i64_w, i32_w]; rfl
              refine take_ (i := 4) (N := some 117) (v := ?_) (a' := ?_) #[I, I, I, I, I, I, O, I, O, O, O] rfl rfl (take_ofW HT_.out HW_.out (by kernel_rfl)) (fun _ _ _ h => h) (Or.inl ⟨by rfl, ?_⟩) hHeld ?_ ?_
              rotate_left; · rintro w' ⟨s0, s1, s2, s3, s4, s5⟩; go_simp; with_reducible rfl
              rotate_left; · simp only [pk, i64_w, i32_w]; rfl
              refine take_ (i := 6) (N := some 119) (v := ?_) (a' := ?_) #[I, I, I, I, I, I, I, I, O, O, O] rfl rfl (take_ofW HT_.out HW_.out (by kernel_rfl)) (fun _ _ _ h => h) (Or.inl ⟨by rfl, ?_⟩) hHeld ?_ ?_
              rotate_left; · rintro w' ⟨s0, s1, s2, s3, s4, s5⟩; go_simp; with_reducible rfl
              rotate_left; · simp only [pk, i64_w, i32_w]; rfl
              refine pure_ (i := 8) (N := some 121) (v := ?_) (a' := ?_) #[I, I, I, I, I, I, I, I, I, O, O] rfl rfl (any_of HT_.out (by kernel_rfl)) (fun _ _ _ h => h) (Or.inl ⟨by rfl, ?_⟩) ?_ ?_
              rotate_left; · intro w'; go_simp; with_reducible rfl
              rotate_left; · simp only [pk, i64_w, i32_w]; rfl
              refine take_ (i := 9) (N := some 122) (v := ?_) (a' := ?_) #[I, I, I, I, I, I, I, I, I, I, O] rfl rfl (take_ofW HT_.out HW_.out (by kernel_rfl)) (fun _ _ _ h => h) (Or.inl ⟨by rfl, ?_⟩) hHeld ?_ ?_
              rotate_left; · rintro w' ⟨s0, s1, s2, s3, s4, s5⟩; go_simp; with_reducible rfl
              rotate_left; · simp only [pk, i64_w, i32_w]; rfl
              refine pure_ (i := 10) (N := some 123) (v := ?_) (a' := ?_) #[I, I, I, I, I, I, I, I, I, I, I] rfl rfl (any_of HT_.out (by kernel_rfl)) (fun _ _ _ h => h) (Or.inl ⟨by rfl, ?_⟩) ?_ ?_
              rotate_left; · intro w'; go_simp; with_reducible rfl
              rotate_left; · simp only [pk, i64_w, i32_w]; rfl
              refine done_ (done_of HT_.out (by kernel_rfl)) ?_
              try go_wp2
              go_ret
              exact ⟨ez, be w⟩
             rw [if_neg c53] at H
             have c53b0 : ((rd ((rd_T52 l0 a1).f3) x8_4) == (rd ((rd_T52 l0 a1).f3) x9_6)) = false := beq_eq_false_iff_ne.mpr c53
             have c53b1 : ((rd ((rd_T52 l0 a1).f3) x8_4) != (rd ((rd_T52 l0 a1).f3) x9_6)) = true := bne_iff_ne.mpr c53
             have H' := As.mk H
             clear H
             try go_wp2
             replace BK136 := As.mk (blk_drew BK136.out)
             replace HB := As.mk (below_drew1 HB.out)
             have p148 : 0 ≤ (x8_4 : Int) := od
             have q148 : x8_4 < (((rd_T52 l0 a1).f3).length : Int) := od
             obtain ⟨ad148, e148, hx148_0⟩ := Kd.at_int HR135_3.out x8_4 p148 q148
             have hw148_0 := hx148_0
             cases e148
             replace hx148_0 := ce HB.out hx148_0
             replace p148 := eq_true p148
             replace q148 := eq_true q148
             have p149 : 0 ≤ (x9_6 : Int) := od
             have q149 : x9_6 < (((rd_T52 l0 a1).f3).length : Int) := od
             obtain ⟨ad149, e149, hx149_0⟩ := Kd.at_int HR135_3.out x9_6 p149 q149
             have hw149_0 := hx149_0
             obtain rfl : ad148 = ad149 := (by injection e149)
             replace hx149_0 := ce HB.out hx149_0
             replace p149 := eq_true p149
             replace q149 := eq_true q149
             refine start_ (n := 11) (S := fun w' => w'.cell? ⟨gb136, 0, none⟩ = some (.int .i64 ((rd_T52 l0 a1).f0)) ∧ w'.cell? ⟨gb136, 1, none⟩ = some (.int .i64 ((rd_T52 l0 a1).f1)) ∧ w'.cell? ⟨gb136, 2, none⟩ = some (.string ((rd_T52 l0 a1).f2)) ∧ w'.cell? ⟨gb136, 3, none⟩ = some (.slice (some ad148) ((rd_T52 l0 a1).f3).length c135_3) ∧ w'.cell? (ad148.add (x8_4).toNat) = some (.int .i64 (rd ((rd_T52 l0 a1).f3) x8_4)) ∧ w'.cell? (ad148.add (x9_6).toNat) = some (.int .i64 (rd ((rd_T52 l0 a1).f3) x9_6))) (ds := []) #[O, O, O, O, O, O, O, O, O, O, O] (by kernel_rfl) rfl rfl ⟨(blk_cell BK136.out 0).trans rfl, (blk_cell BK136.out 1).trans rfl, (blk_cell BK136.out 2).trans rfl, (blk_cell BK136.out 3).trans rfl, (ce HB.out hw148_0 :), (ce HB.out hw149_0 :)⟩ (fun hHeld => ?_); refine with_tabW spec_NodeOk.tab17 spec_NodeOk.bits17 (fun HT_ HW_ => ?_)
             generalize wr.drew = w55 at BK136 HB hx148_0 hx149_0 hHeld ⊢
             refine pure_ (i := 0) (N := some 113) (v := ?_) (a' := ?_) #[I, O, O, O, O, O, O, O, O, O, O] rfl rfl (any_of HT_.out (by kernel_rfl)) (fun _ _ _ h => h) (Or.inl ⟨by rfl, ?_⟩) ?_ ?_
             rotate_left; · intro w'; go_simp; with_reducible rfl
             rotate_left; · simp only [pk, i64_w, i32_w]; rfl
             refine pure_ (i := 2) (N := some 115) (v := ?_) (a' := ?_) #[I, O, I, O, O, O, O, O, O, O, O] rfl rfl (any_of HT_.out (by kernel_rfl)) (fun _ _ _ h => h) (Or.inl ⟨by rfl, ?_⟩) ?_ ?_
             rotate_left; · intro w'; go_simp; with_reducible rfl
             rotate_left; · simp only [pk, i64_w, i32_w]; rfl
             refine pure_ (i := 5) (N := some 118) (v := ?_) (a' := ?_) #[I, O, I, O, O, I, O, O, O, O, O] rfl rfl (any_of HT_.out (by kernel_rfl)) (fun _ _ _ h => h) (Or.inl ⟨by rfl, ?_⟩) ?_ ?_
             rotate_left; · intro w'; go_simp; with_reducible rfl
             rotate_left; · simp only [pk, i64_w, i32_w]; rfl
             refine pure_ (i := 7) (N := some 120) (v := ?_) (a' := ?_) #[I, O, I, O, O, I, O, I, O, O, O] rfl rfl (any_of HT_.out (by kernel_rfl)) (fun _ _ _ h => h) (Or.inl ⟨by rfl, ?_⟩) ?_ ?_
             rotate_left; · intro w'; go_simp; with_reducible rfl
             rotate_left; · simp only [pk, i64_w, i32_w]; rfl
             refine take_ (i := 1) (N := some 114) (v := ?_) (a' := ?_) #[I, I, I, O, O, I, O, I, O, O, O] rfl rfl (take_ofW HT_.out HW_.out (by kernel_rfl)) (fun _ _ _ h => h) (Or.inl ⟨by rfl, ?_⟩) hHeld ?_ ?_
             rotate_left; · rintro w' ⟨s0, s1, s2, s3, s4, s5⟩; go_simp; with_reducible rfl
             rotate_left; · simp only [pk, i64_w, i32_w]; rfl
             refine pure_ (i := 3) (N := some 116) (v := ?_) (a' := ?_) #[I, I, I, I, O, I, O, I, O, O, O] rfl rfl (any_of HT_.out (by kernel_rfl)) (fun _ _ _ h => h) (Or.inl ⟨by rfl, ?_⟩) ?_ ?_
             rotate_left; · intro w'; go_simp; with_reducible rfl
             rotate_left; · simp only [pk, i64_w, i32_w]; rfl
             refine take_ (i := 4) (N := some 117) (v := ?_) (a' := ?_) #[I, I, I, I, I, I, O, I, O, O, O] rfl rfl (take_ofW HT_.out HW_.out (by kernel_rfl)) (fun _ _ _ h => h) (Or.inl ⟨by rfl, ?_⟩) hHeld ?_ ?_
             rotate_left; · rintro w' ⟨s0, s1, s2, s3, s4, s5⟩; go_simp; with_reducible rfl
             rotate_left; · simp only [pk, i64_w, i32_w]; rfl
             refine take_ (i := 6) (N := some 119) (v := ?_) (a' := ?_) #[I, I, I, I, I, I, I, I, O, O, O] rfl rfl (take_ofW HT_.out HW_.out (by kernel_rfl)) (fun _ _ _ h => h) (Or.inl ⟨by rfl, ?_⟩) hHeld ?_ ?_
             rotate_left; · rintro w' ⟨s0, s1, s2, s3, s4, s5⟩; go_simp; with_reducible rfl
             rotate_left; · simp only [pk, i64_w, i32_w]; rfl
             refine pure_ (i := 8) (N := some 121) (v := ?_) (a' := ?_) #[I, I, I, I, I, I, I, I, I, O, O] rfl rfl (any_of HT_.out (by kernel_rfl)) (fun _ _ _ h => h) (Or.inl ⟨by rfl, ?_⟩) ?_ ?_
             rotate_left; · intro w'; go_simp; with_reducible rfl
             rotate_left; · simp only [pk, i64_w, i32_w]; rfl
             refine take_ (i := 9) (N := some 122) (v := ?_) (a' := ?_) #[I, I, I, I, I, I, I, I, I, I, O] rfl rfl (take_ofW HT_.out HW_.out (by kernel_rfl)) (fun _ _ _ h => h) (Or.inl ⟨by rfl, ?_⟩) hHeld ?_ ?_
             rotate_left; · rintro w' ⟨s0, s1, s2, s3, s4, s5⟩; go_simp; with_reducible rfl
             rotate_left; · simp only [pk, i64_w, i32_w]; rfl
             refine pure_ (i := 10) (N := some 123) (v := ?_) (a' := ?_) #[I, I, I, I, I, I, I, I, I, I, I] rfl rfl (any_of HT_.out (by kernel_rfl)) (fun _ _ _ h => h) (Or.inl ⟨by rfl, ?_⟩) ?_ ?_
             rotate_left; · intro w'; go_simp; with_reducible rfl
             rotate_left; · simp only [pk, i64_w, i32_w]; rfl
             refine done_ (done_of HT_.out (by kernel_rfl)) ?_
             try go_wp2
             go_roundg k6
             case measure => have := HJ2.out; have := HJ12.out; have := HJ25.out; have := HK4.out; have := HJ36.out; have := HK6.out; omega
             case rel => exact ⟨(wrap64 (x9_6 + 1)), (by first | rfl | (simp; done) | (simp [*]; done)), H', ⟨by have := HJ2.out; have := HJ12.out; have := HJ25.out; have := HK4.out; have := HJ36.out; have := HK6.out; omega⟩, ⟨bx BK136.out⟩, ⟨be w⟩⟩
end Go.Proofs.YtnepkmbknoanjaaDoor.PFnExactCopyNodes
