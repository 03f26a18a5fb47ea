/- Written by a program of this session (a turned copy of the kit's print): a contract for each Go function. No condition beside those in each statement. -/
import Derived.Test.YtnepkmbknoanjaaDoorPFnExactCopyNodesx0
import Derived.Test.YtnepkmbknoanjaaDoorPFnExactCopyNodesx5
import Derived.Test.YtnepkmbknoanjaaDoorPFnExactCopyNodesx6
namespace Go.Proofs.YtnepkmbknoanjaaDoor.PFnExactCopyNodes
open Go.RowKit Go.Proofs.YtnepkmbknoanjaaDoor.Given Go.Proofs.YtnepkmbknoanjaaDoorW.PrintWords Go.Proofs.YtnepkmbknoanjaaDoorW.PrintLast Go.Proofs.YtnepkmbknoanjaaDoorW.PrintMore
attribute [local go_sem] max2_int min2_int max_two min_two max_three min_three max_four min_four   -- for this text's walks alone
set_option linter.unusedVariables false
set_option linter.unusedSimpArgs false

/-! ### impl_NodeOk: function 46 -/
mutual
def impl_NodeOk.j0 : Nat → List (S52) → Int → Bool → Int → Int → ByteArray → List Int → Option (Bool)
 | 0, _, _, _, _, _, _, _ => none
 | k + 1, x0, x1, x38, x283000, x283001, x283002, x283003 => if x38 = true then (some false) else (impl_NodeOk.l0 k x0 x1 x283003 (x283003.length : Int) 0 x283000 x283001 x283002 x283003)
def impl_NodeOk.l0 : Nat → List (S52) → Int → List Int → Int → Int → Int → Int → ByteArray → List Int → Option (Bool)
 | 0, _, _, _, _, _, _, _, _, _ => none
 | k + 1, x0, x1, x40, x41, x42, x283000, x283001, x283002, x283003 => if x42 < x41 then (if 0 ≤ x42 then (if x42 < (x40.length : Int) then ((impl_in.f (rd x40 x42) 0 (wrap64 (x1 - 1))).bind fun t288 => (if t288 = true then (if x42 ≤ (x283003.length : Int) then ((impl_hasInt.f k (x283003.take (x42 : Int).toNat) (rd x40 x42)).bind fun t290 => (if t290 = true then (some false) else (if 0 ≤ (rd x40 x42) then (if (rd x40 x42) < (x0.length : Int) then ((impl_kidFits.f k x283000 x42 ((rd_T52 x0 (rd x40 x42)).f0)).bind fun t292 => (if t292 = true then (impl_NodeOk.l0 k x0 x1 x40 x41 (wrap64 (x42 + 1)) x283000 x283001 x283002 x283003) else (some false))) else (none)) else (none)))) else (none)) else (some false))) else (none)) else (none)) else (if x283000 = 1 then ((impl_in.f x283001 0 1000000000).bind fun t293 => (if t293 = true then (impl_NodeOk.j2 k false x283000 x283001 x283002 x283003) else (impl_NodeOk.j2 k true x283000 x283001 x283002 x283003))) else (impl_NodeOk.j2 k (x283001 != 0) x283000 x283001 x283002 x283003))
def impl_NodeOk.j2 : Nat → Bool → Int → Int → ByteArray → List Int → Option (Bool)
 | 0, _, _, _, _, _ => none
 | k + 1, x91, x283000, x283001, x283002, x283003 => if x91 = true then (some false) else ((impl_hasName.f x283000).bind fun t294 => (if t294 = true then ((impl_NameOk.f k x283002).bind fun t295 => (some t295)) else (some (x283002.toList == ([] : List UInt8)))))
end
def impl_NodeOk.f (k : Nat) (l0 : List (S52)) (a1 : Int) : Option (Bool) := (impl_in.f a1 0 (wrap64 ((l0.length : Int) - 1))).bind fun t280 => (if t280 = true then (if 0 ≤ a1 then (if a1 < (l0.length : Int) then ((impl_shape.f k ((rd_T52 l0 a1).f0)).bind fun bt283 => ((impl_in.f ((rd_T52 l0 a1).f0) 1 20).bind fun t285 => (if t285 = true then ((impl_in.f (((rd_T52 l0 a1).f3).length : Int) bt283.1 bt283.2).bind fun t286 => (impl_NodeOk.j0 k l0 a1 (!t286) ((rd_T52 l0 a1).f0) ((rd_T52 l0 a1).f1) ((rd_T52 l0 a1).f2) ((rd_T52 l0 a1).f3))) else (impl_NodeOk.j0 k l0 a1 true ((rd_T52 l0 a1).f0) ((rd_T52 l0 a1).f1) ((rd_T52 l0 a1).f2) ((rd_T52 l0 a1).f3))))) else (none)) else (none)) else (some false))
theorem impl_NodeOk.mono_l : ∀ k, (∀ y0 y1 y2 y3 y4 y5 y6, LeO (impl_NodeOk.j0 k y0 y1 y2 y3 y4 y5 y6) (impl_NodeOk.j0 (k + 1) y0 y1 y2 y3 y4 y5 y6)) ∧ (∀ y0 y1 y2 y3 y4 y5 y6 y7 y8, LeO (impl_NodeOk.l0 k y0 y1 y2 y3 y4 y5 y6 y7 y8) (impl_NodeOk.l0 (k + 1) y0 y1 y2 y3 y4 y5 y6 y7 y8)) ∧ (∀ y0 y1 y2 y3 y4, LeO (impl_NodeOk.j2 k y0 y1 y2 y3 y4) (impl_NodeOk.j2 (k + 1) y0 y1 y2 y3 y4))
 | 0 => ⟨fun _ _ _ _ _ _ _ r h => by simp [impl_NodeOk.j0] at h, fun _ _ _ _ _ _ _ _ _ r h => by simp [impl_NodeOk.l0] at h, fun _ _ _ _ _ r h => by simp [impl_NodeOk.j2] at h⟩
 | k + 1 => by
  obtain ⟨ih0, ih1, ih2⟩ := impl_NodeOk.mono_l k
  refine ⟨?_, ?_, ?_⟩
  ·
   intro y0 y1 y2 y3 y4 y5 y6
   unfold impl_NodeOk.j0
   with_reducible repeat' first | exact ih0 _ _ _ _ _ _ _ | exact ih1 _ _ _ _ _ _ _ _ _ | exact ih2 _ _ _ _ _ | exact impl_NameOk.mono _ _ | exact impl_hasInt.mono _ _ _ | exact impl_kidFits.mono _ _ _ _ | exact impl_shape.mono _ _ | exact LeO.refl _ | exact LeO.none _ | refine LeO.ite ?_ ?_ | refine LeO.bind ?_ (fun _ => ?_)
  ·
   intro y0 y1 y2 y3 y4 y5 y6 y7 y8
   unfold impl_NodeOk.l0
   with_reducible repeat' first | exact ih0 _ _ _ _ _ _ _ | exact ih1 _ _ _ _ _ _ _ _ _ | exact ih2 _ _ _ _ _ | exact impl_NameOk.mono _ _ | exact impl_hasInt.mono _ _ _ | exact impl_kidFits.mono _ _ _ _ | exact impl_shape.mono _ _ | exact LeO.refl _ | exact LeO.none _ | refine LeO.ite ?_ ?_ | refine LeO.bind ?_ (fun _ => ?_)
  ·
   intro y0 y1 y2 y3 y4
   unfold impl_NodeOk.j2
   with_reducible repeat' first | exact ih0 _ _ _ _ _ _ _ | exact ih1 _ _ _ _ _ _ _ _ _ | exact ih2 _ _ _ _ _ | exact impl_NameOk.mono _ _ | exact impl_hasInt.mono _ _ _ | exact impl_kidFits.mono _ _ _ _ | exact impl_shape.mono _ _ | exact LeO.refl _ | exact LeO.none _ | refine LeO.ite ?_ ?_ | refine LeO.bind ?_ (fun _ => ?_)
theorem impl_NodeOk.mono : ∀ a0 a1 k, LeO (impl_NodeOk.f k a0 a1) (impl_NodeOk.f (k + 1) a0 a1) := by
 intro a0 a1 k
 obtain ⟨ih0, ih1, ih2⟩ := impl_NodeOk.mono_l k
 unfold impl_NodeOk.f
 with_reducible repeat' first | exact ih0 _ _ _ _ _ _ _ | exact ih1 _ _ _ _ _ _ _ _ _ | exact ih2 _ _ _ _ _ | exact impl_NameOk.mono _ _ | exact impl_hasInt.mono _ _ _ | exact impl_kidFits.mono _ _ _ _ | exact impl_shape.mono _ _ | exact LeO.refl _ | exact LeO.none _ | refine LeO.ite ?_ ?_ | refine LeO.bind ?_ (fun _ => ?_)
def impl_NodeOk.T10 : Bool × List (List Nat × List Nat) := (true, [([], []), ([], []), ([1], [1]), ([0, 2], [0, 2]), ([3], [3]), ([4, 3], [4]), ([5], [5]), ([6, 5], [5, 6]), ([5], [5]), ([7, 8, 5], [5, 7, 8]), ([5], [5]), ([9, 10, 5, 5], [5, 9, 10]), ([5, 11], [5, 11]), ([12, 11], [12]), ([13], [13]), ([14, 13], [13, 14]), ([13], [13]), ([13], [13]), ([13], [13]), ([17, 18, 13], [13, 17, 18]), ([19, 13], [13, 19]), ([20, 13], [13, 20]), ([15, 16, 21, 13, 13], [13, 15, 16, 21]), ([22, 13], [13, 22]), ([13, 23], [13, 23])])
def impl_NodeOk.B10 : List Nat := [0, 0, 2, 7, 15, 31, 63, 127, 63, 511, 63, 2047, 4095, 8191, 16383, 32767, 16383, 16383, 16383, 409599, 933887, 1982463, 4194303, 8388607, 16777215]
theorem impl_NodeOk.tab10 : rtab .any (opsOf Tryd.f46 10) = impl_NodeOk.T10 := by kernel_rfl
theorem impl_NodeOk.bits10 : waitsOk impl_NodeOk.T10.2 impl_NodeOk.B10 = true := by kernel_rfl
set_option maxHeartbeats 8000000 in
set_option maxRecDepth 100000 in
theorem impl_NodeOk.calls (k : Nat) (A0 : Option Addr) (c0 : Nat) (l0 : List (S52)) (a1 : Int) (r : Bool) (w : World) (hr0 : Kd.C k52 w A0 l0.length l0) (hc0 : l0.length ≤ c0) (h : impl_NodeOk.f k l0 a1 = some r) :
  Calls Tryd.prog 46 #[.slice A0 l0.length c0, .int .i64 a1] w fun e w' => e = .returned (.bool r) ∧ Below w.heap.size w w' := by
 have hu52 := Tryd.underlying52
 have HR0 := As.mk hr0
 have HC0 := As.mk hc0
 clear hr0 hc0
 have HB := As.mk (Below.refl w.heap.size w)
 have H : ((impl_in.f a1 0 (wrap64 ((l0.length : Int) - 1))).bind fun t280 => (if t280 = true then (if 0 ≤ a1 then (if a1 < (l0.length : Int) then ((impl_shape.f k ((rd_T52 l0 a1).f0)).bind fun bt283 => ((impl_in.f ((rd_T52 l0 a1).f0) 1 20).bind fun t285 => (if t285 = true then ((impl_in.f (((rd_T52 l0 a1).f3).length : Int) bt283.1 bt283.2).bind fun t286 => (impl_NodeOk.j0 k l0 a1 (!t286) ((rd_T52 l0 a1).f0) ((rd_T52 l0 a1).f1) ((rd_T52 l0 a1).f2) ((rd_T52 l0 a1).f3))) else (impl_NodeOk.j0 k l0 a1 true ((rd_T52 l0 a1).f0) ((rd_T52 l0 a1).f1) ((rd_T52 l0 a1).f2) ((rd_T52 l0 a1).f3))))) else (none)) else (none)) else (some false))) = some r := h
 clear h
 obtain ⟨t280, A30, H⟩ := Option.bind_eq_some_iff.mp H
 try dsimp only at H
 have A3 := As.mk A30
 clear A30
 by_cases c4 : t280 = true
 rotate_left
 ·
  replace c4 := Bool.eq_false_iff.mpr c4
  subst c4
  rw [if_neg (show ¬ (false = true) by decide)] at H
  obtain rfl := Option.some.inj H
  go_enter Tryd.func46, Tryd.ntmps46
  go_wp2_with (first | ((with_reducible refine gate_callee (f := 39) rfl ?_); refine goesL_ (some 14) rfl rfl Tryd.func39 (by kernel_rfl) rfl #[.int .i64 a1, .int .i64 0, .int .i64 (wrap64 ((l0.length : Int) - 1))] rfl (by (try simp only [lm]); first | done | rfl | (simp only [List.length_drop, List.length_take]; rfl)) ?_; (with_reducible refine (impl_in.calls a1 0 (wrap64 ((l0.length : Int) - 1)) false _ A3.out).mono ?_); rintro e w' ⟨rfl, ⟨nd, rfl⟩⟩; refine ⟨_, rfl, ?_⟩))
  go_ret
  exact ⟨ez, be w⟩

 subst c4
 rw [if_pos rfl] at H
 by_cases c5 : 0 ≤ a1
 rotate_left; · rw [if_neg c5] at H; exact absurd H (by simp)
 rw [if_pos c5] at H
 have c5b0 : decide (0 ≤ a1) = true := decide_eq_true c5
 clear c5
 by_cases c6 : a1 < (l0.length : Int)
 rotate_left; · rw [if_neg c6] at H; exact absurd H (by simp)
 rw [if_pos c6] at H
 have c6b0 : decide (a1 < (l0.length : Int)) = true := decide_eq_true c6
 clear c6
 obtain ⟨⟨t283, t284⟩, A70, H⟩ := Option.bind_eq_some_iff.mp H
 try dsimp only at H
 have A7 := As.mk A70
 clear A70
 have HC8 := As.mk H
 clear H
 go_enter Tryd.func46, Tryd.ntmps46
 go_upto_region 5 with (first | ((with_reducible refine gate_callee (f := 39) rfl ?_); refine goesL_ (some 14) rfl rfl Tryd.func39 (by kernel_rfl) rfl #[.int .i64 a1, .int .i64 0, .int .i64 (wrap64 ((l0.length : Int) - 1))] rfl (by (try simp only [lm]); first | done | rfl | (simp only [List.length_drop, List.length_take]; rfl)) ?_; (with_reducible refine (impl_in.calls a1 0 (wrap64 ((l0.length : Int) - 1)) true _ A3.out).mono ?_); rintro e w' ⟨rfl, ⟨nd, rfl⟩⟩; refine ⟨_, rfl, ?_⟩; have p281 : 0 ≤ (a1 : Int) := od; have q281 : a1 < (l0.length : Int) := od; obtain ⟨ad281, A281_3, c281_3, e281, hx281_0, hx281_1, hx281_2, hx281_3, hl281_3, hi281_3⟩ := at_T52 HR0.out a1 p281 q281; cases e281; have HR281_3 := As.mk hi281_3; have HC281_3 := As.mk hl281_3; clear hi281_3 hl281_3; replace p281 := eq_true p281; replace q281 := eq_true q281) | ((with_reducible refine gate_dst (N := 5) rfl ?_); (try (refine gate_guard (by rfl) ?_; dsimp only)); refine box_event ?hg (N := 5) ?hd (cs := #[.int .i64 0, .int .i64 0, .string (⟨#[]⟩ : ByteArray), .slice none 0 0]) (t := 52) ?hr ?_; (case hd => rfl); (case hg => rfl); (case hr => first | (go_simp; done) | (go_simp; rfl)); intro gb282 hg w9 hbox hb; have BK282 := As.mk (hbox); have GW282 := As.mk (gs w hg); have GE282 := As.mk (gs w hg); replace HB := As.mk (below_step (be w) hb); clear hb hbox hg; obtain ⟨hcz10_0, hcz10_1, hcz10_2, hcz10_3, hfz10_0, hfz10_1, hfz10_2, hfz10_3⟩ := cl4 BK282.out) | ((with_reducible refine gate_callee (f := 54) rfl ?_); refine goesL_ (some 23) rfl rfl Tryd.func54 (by kernel_rfl) rfl #[.int .i64 ((rd_T52 l0 a1).f0)] rfl (by (try simp only [lm]); first | done | rfl | (simp only [List.length_drop, List.length_take]; rfl)) ?_; (with_reducible refine (impl_shape.calls k ((rd_T52 l0 a1).f0) t283 t284 _ A7.out).mono ?_); rintro e w' ⟨rfl, ⟨nd, rfl⟩⟩; refine ⟨_, rfl, ?_⟩))
 (try simp only [pk])
 go_cut [38] (fun v38 wc => ∃ (kq : Nat) (x38_7 : Bool), v38 = .bool x38_7 ∧ As (impl_NodeOk.j0 kq l0 a1 x38_7 ((rd_T52 l0 a1).f0) ((rd_T52 l0 a1).f1) ((rd_T52 l0 a1).f2) ((rd_T52 l0 a1).f3) = some r) ∧ As (kq ≤ k) ∧ As (wc.heap[gb282]? = some (.cells #[.int .i64 ((rd_T52 l0 a1).f0), .int .i64 ((rd_T52 l0 a1).f1), .string ((rd_T52 l0 a1).f2), (.slice A281_3 ((rd_T52 l0 a1).f3).length c281_3)] 52 (0, 0))) ∧ As (Below w.heap.size w wc))
 case first =>
  have H := HC8.out
  clear HC8
  obtain ⟨t285, A110, H⟩ := Option.bind_eq_some_iff.mp H
  try dsimp only at H
  have A11 := As.mk A110
  clear A110
  by_cases c12 : t285 = true
  rotate_left
  ·
   replace c12 := Bool.eq_false_iff.mpr c12
   subst c12
   rw [if_neg (show ¬ (false = true) by decide)] at H
   have H' := As.mk H
   clear H
   obtain ⟨hcz15_0, hcz15_1, hcz15_2, hcz15_3, hfz15_0, hfz15_1, hfz15_2, hfz15_3⟩ := cl4 BK282.out
   go_wp2_with (first | ((with_reducible refine gate_callee (f := 39) rfl ?_); refine goesL_ (some 28) rfl rfl Tryd.func39 (by kernel_rfl) rfl #[.int .i64 ((rd_T52 l0 a1).f0), .int .i64 1, .int .i64 20] rfl (by (try simp only [lm]); first | done | rfl | (simp only [List.length_drop, List.length_take]; rfl)) ?_; (with_reducible refine (impl_in.calls ((rd_T52 l0 a1).f0) 1 20 false _ A11.out).mono ?_); rintro e w' ⟨rfl, ⟨nd, rfl⟩⟩; refine ⟨_, rfl, ?_⟩))
   go_meet
   case rel => exact ⟨_, (true), (by first | rfl | (simp; done) | (simp [*]; done)), H', ⟨by first | omega | exact Nat.le_refl _⟩, ⟨by refine pl ?_; refine blk_put (cs := #[.int .i64 ((rd_T52 l0 a1).f0), .int .i64 ((rd_T52 l0 a1).f1), .string ((rd_T52 l0 a1).f2), .slice none 0 0]) ?_ 3 _ rfl; refine pl ?_; refine blk_put (cs := #[.int .i64 ((rd_T52 l0 a1).f0), .int .i64 ((rd_T52 l0 a1).f1), .string (⟨#[]⟩ : ByteArray), .slice none 0 0]) ?_ 2 _ rfl; refine pl ?_; refine blk_put (cs := #[.int .i64 ((rd_T52 l0 a1).f0), .int .i64 0, .string (⟨#[]⟩ : ByteArray), .slice none 0 0]) ?_ 1 _ rfl; refine pl ?_; refine blk_put (cs := #[.int .i64 0, .int .i64 0, .string (⟨#[]⟩ : ByteArray), .slice none 0 0]) ?_ 0 _ rfl; exact bx BK282.out⟩, ⟨be w⟩⟩
  subst c12
  rw [if_pos rfl] at H
  obtain ⟨t286, A130, H⟩ := Option.bind_eq_some_iff.mp H
  try dsimp only at H
  have A13 := As.mk A130
  clear A130
  have H' := As.mk H
  clear H
  obtain ⟨hcz14_0, hcz14_1, hcz14_2, hcz14_3, hfz14_0, hfz14_1, hfz14_2, hfz14_3⟩ := cl4 BK282.out
  go_wp2_with (first | ((with_reducible refine gate_callee (f := 39) rfl ?_); refine goesL_ (some 28) rfl rfl Tryd.func39 (by kernel_rfl) rfl #[.int .i64 ((rd_T52 l0 a1).f0), .int .i64 1, .int .i64 20] rfl (by (try simp only [lm]); first | done | rfl | (simp only [List.length_drop, List.length_take]; rfl)) ?_; (with_reducible refine (impl_in.calls ((rd_T52 l0 a1).f0) 1 20 true _ A11.out).mono ?_); rintro e w' ⟨rfl, ⟨nd, rfl⟩⟩; refine ⟨_, rfl, ?_⟩) | (go_at_call 39; (with_reducible refine (impl_in.calls (((rd_T52 l0 a1).f3).length : Int) t283 t284 t286 _ A13.out).mono ?_); rintro e w' ⟨rfl, ⟨nd, rfl⟩⟩))
  go_meet
  case rel => exact ⟨_, (!t286), (by first | rfl | (simp; done) | (simp [*]; done)), H', ⟨by first | omega | exact Nat.le_refl _⟩, ⟨by refine pl ?_; refine blk_put (cs := #[.int .i64 ((rd_T52 l0 a1).f0), .int .i64 ((rd_T52 l0 a1).f1), .string ((rd_T52 l0 a1).f2), .slice none 0 0]) ?_ 3 _ rfl; refine pl ?_; refine blk_put (cs := #[.int .i64 ((rd_T52 l0 a1).f0), .int .i64 ((rd_T52 l0 a1).f1), .string (⟨#[]⟩ : ByteArray), .slice none 0 0]) ?_ 2 _ rfl; refine pl ?_; refine blk_put (cs := #[.int .i64 ((rd_T52 l0 a1).f0), .int .i64 0, .string (⟨#[]⟩ : ByteArray), .slice none 0 0]) ?_ 1 _ rfl; refine pl ?_; refine blk_put (cs := #[.int .i64 0, .int .i64 0, .string (⟨#[]⟩ : ByteArray), .slice none 0 0]) ?_ 0 _ rfl; exact bx BK282.out⟩, ⟨be w⟩⟩
 case rest =>
  clear HC8
  (try clear c4); (try clear c5); (try clear c5b0); (try clear c6); (try clear c6b0); (try clear hcz10_0); (try clear hcz10_1); (try clear hcz10_2); (try clear hcz10_3); (try clear hfz10_0); (try clear hfz10_1); (try clear hfz10_2); (try clear hfz10_3); (try clear hx281_0); (try clear hx281_1); (try clear hx281_2); (try clear hx281_3); (try clear p281); (try clear q281)
  obtain ⟨kq, x38_7, rfl, HA, HJ7, BK282, HB⟩ := hcut
  cases kq with
  | zero => exact absurd HA.out (by simp [impl_NodeOk.j0])
  | succ kj7 =>
   have H := HA.out
   clear HA
   simp only [impl_NodeOk.j0] at H
   by_cases c16 : x38_7 = true
   ·
    subst c16
    rw [if_pos rfl] at H
    obtain rfl := Option.some.inj H
    go_wp2
    go_ret
    exact ⟨ez, be w⟩
   replace c16 := Bool.eq_false_iff.mpr c16
   subst c16
   rw [if_neg (show ¬ (false = true) by decide)] at H
   have H' := As.mk H
   clear H
   obtain ⟨hcz17_0, hcz17_1, hcz17_2, hcz17_3, hfz17_0, hfz17_1, hfz17_2, hfz17_3⟩ := cl4 BK282.out
   go_wp2
   go_loopg [42] kj7 (fun kq v42 w' => ∃ (x42_2 : Int), v42 = .int .i64 x42_2 ∧ As (impl_NodeOk.l0 kq l0 a1 ((rd_T52 l0 a1).f3) (((rd_T52 l0 a1).f3).length : Int) x42_2 ((rd_T52 l0 a1).f0) ((rd_T52 l0 a1).f1) ((rd_T52 l0 a1).f2) ((rd_T52 l0 a1).f3) = some r) ∧ As (kq ≤ kj7) ∧ As (w'.heap[gb282]? = some (.cells #[.int .i64 ((rd_T52 l0 a1).f0), .int .i64 ((rd_T52 l0 a1).f1), .string ((rd_T52 l0 a1).f2), (.slice A281_3 ((rd_T52 l0 a1).f3).length c281_3)] 52 (0, 0))) ∧ As (Below w.heap.size w w'))
   case atStart => exact ⟨(0), (by first | rfl | (simp; done) | (simp [*]; done)), H', ⟨Nat.le_refl _⟩, ⟨bx BK282.out⟩, ⟨be w⟩⟩
   case round =>
    clear H'
    (try clear c4); (try clear c5); (try clear c5b0); (try clear c6); (try clear c6b0); (try clear c16); (try clear hcz10_0); (try clear hcz10_1); (try clear hcz10_2); (try clear hcz10_3); (try clear hcz17_0); (try clear hcz17_1); (try clear hcz17_2); (try clear hcz17_3); (try clear hfz10_0); (try clear hfz10_1); (try clear hfz10_2); (try clear hfz10_3); (try clear hfz17_0); (try clear hfz17_1); (try clear hfz17_2); (try clear hfz17_3); (try clear hx281_0); (try clear hx281_1); (try clear hx281_2); (try clear hx281_3); (try clear p281); (try clear q281)
    obtain ⟨x42_2, rfl, HA, HK2, BK282, HB⟩ := hrel
    cases gk with
    | zero => exact absurd HA.out (by simp [impl_NodeOk.l0])
    | succ k2 =>
     have H := HA.out
     clear HA
     simp only [impl_NodeOk.l0] at H
     by_cases c18 : x42_2 < (((rd_T52 l0 a1).f3).length : Int)
     rotate_left
     ·
      rw [if_neg c18] at H
      have c18b0 : decide (x42_2 < (((rd_T52 l0 a1).f3).length : Int)) = false := decide_eq_false c18
      clear c18
      have HC38 := As.mk H
      clear H
      go_upto_region 13 with (fail)
      go_cut [91] (fun v91 wc => ∃ (kq : Nat) (x91_37 : Bool), v91 = .bool x91_37 ∧ As (impl_NodeOk.j2 kq x91_37 ((rd_T52 l0 a1).f0) ((rd_T52 l0 a1).f1) ((rd_T52 l0 a1).f2) ((rd_T52 l0 a1).f3) = some r) ∧ As (kq ≤ k2) ∧ As (wc.heap[gb282]? = some (.cells #[.int .i64 ((rd_T52 l0 a1).f0), .int .i64 ((rd_T52 l0 a1).f1), .string ((rd_T52 l0 a1).f2), (.slice A281_3 ((rd_T52 l0 a1).f3).length c281_3)] 52 (0, 0))) ∧ As (Below w.heap.size w wc))
      case first =>
       have H := HC38.out
       clear HC38
       by_cases c39 : ((rd_T52 l0 a1).f0) = 1
       rotate_left
       ·
        rw [if_neg c39] at H
        have c39b0 : (((rd_T52 l0 a1).f0) == 1) = false := beq_eq_false_iff_ne.mpr c39
        have c39b1 : (((rd_T52 l0 a1).f0) != 1) = true := bne_iff_ne.mpr c39
        (first | rw [c39b0] | (simp only [i64_w, i32_w]; rw [c39b0]) | skip)
        have H' := As.mk H
        clear H
        obtain ⟨hcz44_0, hcz44_1, hcz44_2, hcz44_3, hfz44_0, hfz44_1, hfz44_2, hfz44_3⟩ := cl4 BK282.out
        go_wp2
        go_meet
        case rel => exact ⟨_, ((((rd_T52 l0 a1).f1) != 0)), (by first | rfl | (simp; done) | (simp [*]; done)), H', ⟨by have := HJ7.out; have := HK2.out; first | omega | exact Nat.le_refl _⟩, ⟨bx BK282.out⟩, ⟨be w⟩⟩
       rw [if_pos c39] at H
       have c39b0 : (((rd_T52 l0 a1).f0) == 1) = true := beq_iff_eq.mpr c39
       have c39b1 : (((rd_T52 l0 a1).f0) != 1) = false := bne_eq_false_iff_eq.mpr c39
       clear c39
       (first | rw [c39b0] | (simp only [i64_w, i32_w]; rw [c39b0]) | skip)
       obtain ⟨t293, A400, H⟩ := Option.bind_eq_some_iff.mp H
       try dsimp only at H
       have A40 := As.mk A400
       clear A400
       by_cases c41 : t293 = true
       ·
        subst c41
        rw [if_pos rfl] at H
        have H' := As.mk H
        clear H
        obtain ⟨hcz42_0, hcz42_1, hcz42_2, hcz42_3, hfz42_0, hfz42_1, hfz42_2, hfz42_3⟩ := cl4 BK282.out
        go_wp2_with (first | (go_at_call 39; (with_reducible refine (impl_in.calls ((rd_T52 l0 a1).f1) 0 1000000000 true _ A40.out).mono ?_); rintro e w' ⟨rfl, ⟨nd, rfl⟩⟩))
        go_meet
        case rel => exact ⟨_, (false), (by first | rfl | (simp; done) | (simp [*]; done)), H', ⟨by have := HJ7.out; have := HK2.out; first | omega | exact Nat.le_refl _⟩, ⟨bx BK282.out⟩, ⟨be w⟩⟩
       replace c41 := Bool.eq_false_iff.mpr c41
       subst c41
       rw [if_neg (show ¬ (false = true) by decide)] at H
       have H' := As.mk H
       clear H
       obtain ⟨hcz43_0, hcz43_1, hcz43_2, hcz43_3, hfz43_0, hfz43_1, hfz43_2, hfz43_3⟩ := cl4 BK282.out
       go_wp2_with (first | (go_at_call 39; (with_reducible refine (impl_in.calls ((rd_T52 l0 a1).f1) 0 1000000000 false _ A40.out).mono ?_); rintro e w' ⟨rfl, ⟨nd, rfl⟩⟩))
       go_meet
       case rel => exact ⟨_, (true), (by first | rfl | (simp; done) | (simp [*]; done)), H', ⟨by have := HJ7.out; have := HK2.out; first | omega | exact Nat.le_refl _⟩, ⟨bx BK282.out⟩, ⟨be w⟩⟩
      case rest =>
       clear HC38
       (try clear c4); (try clear c5); (try clear c18); (try clear c18b0)
       obtain ⟨kq, x91_37, rfl, HA, HJ37, BK282, HB⟩ := hcut
       cases kq with
       | zero => exact absurd HA.out (by simp [impl_NodeOk.j2])
       | succ kj37 =>
        have H := HA.out
        clear HA
        simp only [impl_NodeOk.j2] at H
        by_cases c45 : x91_37 = true
        ·
         subst c45
         rw [if_pos rfl] at H
         obtain rfl := Option.some.inj H
         go_wp2
         go_ret
         exact ⟨ez, be w⟩
        replace c45 := Bool.eq_false_iff.mpr c45
        subst c45
        rw [if_neg (show ¬ (false = true) by decide)] at H
        obtain ⟨t294, A460, H⟩ := Option.bind_eq_some_iff.mp H
        try dsimp only at H
        have A46 := As.mk A460
        clear A460
        by_cases c47 : t294 = true
        rotate_left
        ·
         replace c47 := Bool.eq_false_iff.mpr c47
         subst c47
         rw [if_neg (show ¬ (false = true) by decide)] at H
         obtain rfl := Option.some.inj H
         obtain ⟨hcz51_0, hcz51_1, hcz51_2, hcz51_3, hfz51_0, hfz51_1, hfz51_2, hfz51_3⟩ := cl4 BK282.out
         go_wp2_with (first | ((with_reducible refine gate_callee (f := 57) rfl ?_); refine goesL_ (some 94) rfl rfl Tryd.func57 (by kernel_rfl) rfl #[.int .i64 ((rd_T52 l0 a1).f0)] rfl (by (try simp only [lm]); first | done | rfl | (simp only [List.length_drop, List.length_take]; rfl)) ?_; (with_reducible refine (impl_hasName.calls ((rd_T52 l0 a1).f0) false _ A46.out).mono ?_); rintro e w' ⟨rfl, ⟨nd, rfl⟩⟩; refine ⟨_, rfl, ?_⟩))
         go_ret
         exact ⟨ez, be w⟩
        subst c47
        rw [if_pos rfl] at H
        obtain ⟨t295, A480, H⟩ := Option.bind_eq_some_iff.mp H
        try dsimp only at H
        have A48 := As.mk A480
        clear A480
        obtain rfl := Option.some.inj H
        obtain ⟨hcz49_0, hcz49_1, hcz49_2, hcz49_3, hfz49_0, hfz49_1, hfz49_2, hfz49_3⟩ := cl4 BK282.out
        go_wp2_with (first | ((with_reducible refine gate_callee (f := 57) rfl ?_); refine goesL_ (some 94) rfl rfl Tryd.func57 (by kernel_rfl) rfl #[.int .i64 ((rd_T52 l0 a1).f0)] rfl (by (try simp only [lm]); first | done | rfl | (simp only [List.length_drop, List.length_take]; rfl)) ?_; (with_reducible refine (impl_hasName.calls ((rd_T52 l0 a1).f0) true _ A46.out).mono ?_); rintro e w' ⟨rfl, ⟨nd, rfl⟩⟩; refine ⟨_, rfl, ?_⟩) | ((with_reducible refine gate_callee (f := 58) rfl ?_); refine goesL_ (some 97) rfl rfl Tryd.func58 (by kernel_rfl) rfl #[.string ((rd_T52 l0 a1).f2)] rfl (by (try simp only [lm]); first | done | rfl | (simp only [List.length_drop, List.length_take]; rfl)) ?_; (with_reducible refine (impl_NameOk.calls kj37 ((rd_T52 l0 a1).f2) t295 _ A48.out).mono ?_); rintro e w50 ⟨rfl, hb⟩; refine ⟨_, rfl, ?_⟩; replace HB := As.mk (below_step (be w) hb); (try clear hb); (try clear hb2); (try clear hk); (try clear hi)))
        go_ret
        exact ⟨ez, be w⟩
     rw [if_pos c18] at H
     have c18b0 : decide (x42_2 < (((rd_T52 l0 a1).f3).length : Int)) = true := decide_eq_true c18
     clear c18
     by_cases c19 : 0 ≤ x42_2
     rotate_left; · rw [if_neg c19] at H; exact absurd H (by simp)
     rw [if_pos c19] at H
     have c19b0 : decide (0 ≤ x42_2) = true := decide_eq_true c19
     clear c19
     by_cases c20 : x42_2 < (((rd_T52 l0 a1).f3).length : Int)
     rotate_left; · rw [if_neg c20] at H; exact absurd H (by simp)
     rw [if_pos c20] at H
     have c20b0 : decide (x42_2 < (((rd_T52 l0 a1).f3).length : Int)) = true := decide_eq_true c20
     clear c20
     obtain ⟨t288, A210, H⟩ := Option.bind_eq_some_iff.mp H
     try dsimp only at H
     have A21 := As.mk A210
     clear A210
     by_cases c22 : t288 = true
     rotate_left
     ·
      replace c22 := Bool.eq_false_iff.mpr c22
      subst c22
      rw [if_neg (show ¬ (false = true) by decide)] at H
      obtain rfl := Option.some.inj H
      have p287 : 0 ≤ (x42_2 : Int) := od
      have q287 : x42_2 < (((rd_T52 l0 a1).f3).length : Int) := od
      obtain ⟨ad287, e287, hx287_0⟩ := Kd.at_int HR281_3.out x42_2 p287 q287
      cases e287
      replace hx287_0 := ce HB.out hx287_0
      replace p287 := eq_true p287
      replace q287 := eq_true q287
      try go_wp2
      replace BK282 := As.mk (blk_drew BK282.out)
      replace HB := As.mk (below_drew1 HB.out)
      refine start_ (n := 25) (S := fun w' => True) (ds := []) #[O, O, O, O, O, O, O, O, O, O, O, O, O, O, O, O, O, O, O, O, O, O, O, O, O] (by kernel_rfl) rfl rfl trivial (fun hHeld => ?_); refine with_tabW impl_NodeOk.tab10 impl_NodeOk.bits10 (fun HT_ HW_ => ?_)
      generalize wr.drew = w37 at BK282 HB hHeld ⊢
      refine pure_ (i := 0) (N := some 47) (v := ?_) (a' := ?_) #[I, O, O, O, O, O, O, O, O, O, O, O, O, O, O, O, O, O, O, O, O, O, O, O, O] rfl rfl (any_of HT_.out (by kernel_rfl)) (fun _ _ _ h => h) (Or.inl ⟨by rfl, ?_⟩) ?_ ?_
      rotate_left; · intro w'; go_simp; with_reducible rfl
      rotate_left; · simp only [pk, i64_w, i32_w]; rfl
      refine pure_ (i := 1) (N := some 48) (v := ?_) (a' := ?_) #[I, I, O, O, O, O, O, O, O, O, O, O, O, O, O, O, O, O, O, O, O, O, O, O, O] rfl rfl (any_of HT_.out (by kernel_rfl)) (fun _ _ _ h => h) (Or.inl ⟨by rfl, ?_⟩) ?_ ?_
      rotate_left; · intro w'; go_simp; with_reducible rfl
      rotate_left; · simp only [pk, i64_w, i32_w]; rfl
      refine pure_ (i := 2) (N := some 49) (v := ?_) (a' := ?_) #[I, I, I, O, O, O, O, O, O, O, O, O, O, O, O, O, O, O, O, O, O, O, O, O, O] rfl rfl (any_of HT_.out (by kernel_rfl)) (fun _ _ _ h => h) (Or.inl ⟨by rfl, ?_⟩) ?_ ?_
      rotate_left; · intro w'; go_simp; with_reducible rfl
      rotate_left; · simp only [pk, i64_w, i32_w]; rfl
      refine one_ (i := 3) (N := some 50) #[I, I, I, I, O, O, O, O, O, O, O, O, O, O, O, O, O, O, O, O, O, O, O, O, O] rfl rfl (one_of HT_.out (by kernel_rfl)) (by decide) (fun K hK => ?_)
      refine goes_ Tryd.func39 (by kernel_rfl) rfl #[.int .i64 (rd ((rd_T52 l0 a1).f3) x42_2), .int .i64 0, .int .i64 (wrap64 (a1 - 1))] (by rfl) rfl rfl (by (try simp only [lm]); first | done | rfl | (simp only [List.length_drop, List.length_take]; rfl)) ?_
      with_reducible refine (impl_in.calls (rd ((rd_T52 l0 a1).f3) x42_2) 0 (wrap64 (a1 - 1)) false _ A21.out).mono ?_
      rintro e w' ⟨rfl, ⟨nd, rfl⟩⟩
      refine ⟨_, rfl, ?_⟩
      refine hK.out _ _ trivial (fun hHeld => ?_)
      clear hK K
      refine norm_ (a' := ?_) ?_ ?_
      rotate_left
      ·
       show Act.put _ (some 50) _ = _
       simp only [pk, i64_w, i32_w]
       rfl
      refine pure_ (i := 4) (N := some 51) (v := ?_) (a' := ?_) #[I, I, I, I, I, O, O, O, O, O, O, O, O, O, O, O, O, O, O, O, O, O, O, O, O] rfl rfl (any_of HT_.out (by kernel_rfl)) (fun _ _ _ h => h) (Or.inl ⟨by rfl, ?_⟩) ?_ ?_
      rotate_left; · intro w'; go_simp; with_reducible rfl
      rotate_left; · simp only [pk, i64_w, i32_w]; rfl
      refine pure_ (i := 5) (N := some 52) (v := ?_) (a' := ?_) #[I, I, I, I, I, I, O, O, O, O, O, O, O, O, O, O, O, O, O, O, O, O, O, O, O] rfl rfl (any_of HT_.out (by kernel_rfl)) (fun _ _ _ h => h) (Or.inl ⟨by rfl, ?_⟩) ?_ ?_
      rotate_left; · intro w'; go_simp; with_reducible rfl
      rotate_left; · simp only [pk, i64_w, i32_w]; rfl
      refine pure_ (i := 6) (N := some 53) (v := undef) (a' := ?_) #[I, I, I, I, I, I, I, O, O, O, O, O, O, O, O, O, O, O, O, O, O, O, O, O, O] rfl rfl (any_of HT_.out (by kernel_rfl)) (fun _ _ _ h => h) (Or.inr ⟨by rfl, rfl⟩) ?_ ?_
      rotate_left; · simp only [pk, i64_w, i32_w]; rfl
      refine pure_ (i := 7) (N := some 54) (v := undef) (a' := ?_) #[I, I, I, I, I, I, I, I, O, O, O, O, O, O, O, O, O, O, O, O, O, O, O, O, O] rfl rfl (any_of HT_.out (by kernel_rfl)) (fun _ _ _ h => h) (Or.inr ⟨by rfl, rfl⟩) ?_ ?_
      rotate_left; · simp only [pk, i64_w, i32_w]; rfl
      refine pure_ (i := 8) (N := some 55) (v := undef) (a' := ?_) #[I, I, I, I, I, I, I, I, I, O, O, O, O, O, O, O, O, O, O, O, O, O, O, O, O] rfl rfl (any_of HT_.out (by kernel_rfl)) (fun _ _ _ h => h) (Or.inr ⟨by rfl, rfl⟩) ?_ ?_
      rotate_left; · simp only [pk, i64_w, i32_w]; rfl
      refine pure_ (i := 9) (N := some 56) (v := undef) (a' := ?_) #[I, I, I, I, I, I, I, I, I, I, O, O, O, O, O, O, O, O, O, O, O, O, O, O, O] rfl rfl (any_of HT_.out (by kernel_rfl)) (fun _ _ _ h => h) (Or.inr ⟨by rfl, rfl⟩) ?_ ?_
      rotate_left; · simp only [pk, i64_w, i32_w]; rfl
      refine pure_ (i := 10) (N := some 57) (v := undef) (a' := ?_) #[I, I, I, I, I, I, I, I, I, I, I, O, O, O, O, O, O, O, O, O, O, O, O, O, O] rfl rfl (any_of HT_.out (by kernel_rfl)) (fun _ _ _ h => h) (Or.inr ⟨by rfl, rfl⟩) ?_ ?_
      rotate_left; · simp only [pk, i64_w, i32_w]; rfl
      refine pure_ (i := 11) (N := some 58) (v := undef) (a' := ?_) #[I, I, I, I, I, I, I, I, I, I, I, I, O, O, O, O, O, O, O, O, O, O, O, O, O] rfl rfl (any_of HT_.out (by kernel_rfl)) (fun _ _ _ h => h) (Or.inr ⟨by rfl, rfl⟩) ?_ ?_
      rotate_left; · simp only [pk, i64_w, i32_w]; rfl
      refine pure_ (i := 12) (N := some 59) (v := ?_) (a' := ?_) #[I, I, I, I, I, I, I, I, I, I, I, I, I, O, O, O, O, O, O, O, O, O, O, O, O] rfl rfl (any_of HT_.out (by kernel_rfl)) (fun _ _ _ h => h) (Or.inl ⟨by rfl, ?_⟩) ?_ ?_
      rotate_left; · intro w'; go_simp; with_reducible rfl
      rotate_left; · simp only [pk, i64_w, i32_w]; rfl
      refine pure_ (i := 13) (N := some 60) (v := ?_) (a' := ?_) #[I, I, I, I, I, I, I, I, I, I, I, I, I, I, O, O, O, O, O, O, O, O, O, O, O] rfl rfl (any_of HT_.out (by kernel_rfl)) (fun _ _ _ h => h) (Or.inl ⟨by rfl, ?_⟩) ?_ ?_
      rotate_left; · intro w'; go_simp; with_reducible rfl
      rotate_left; · simp only [pk, i64_w, i32_w]; rfl
      refine pure_ (i := 14) (N := some 61) (v := undef) (a' := ?_) #[I, I, I, I, I, I, I, I, I, I, I, I, I, I, I, O, O, O, O, O, O, O, O, O, O] rfl rfl (any_of HT_.out (by kernel_rfl)) (fun _ _ _ h => h) (Or.inr ⟨by rfl, rfl⟩) ?_ ?_
      rotate_left; · simp only [pk, i64_w, i32_w]; rfl
      refine pure_ (i := 15) (N := some 62) (v := undef) (a' := ?_) #[I, I, I, I, I, I, I, I, I, I, I, I, I, I, I, I, O, O, O, O, O, O, O, O, O] rfl rfl (any_of HT_.out (by kernel_rfl)) (fun _ _ _ h => h) (Or.inr ⟨by rfl, rfl⟩) ?_ ?_
      rotate_left; · simp only [pk, i64_w, i32_w]; rfl
      refine pure_ (i := 16) (N := some 63) (v := undef) (a' := ?_) #[I, I, I, I, I, I, I, I, I, I, I, I, I, I, I, I, I, O, O, O, O, O, O, O, O] rfl rfl (any_of HT_.out (by kernel_rfl)) (fun _ _ _ h => h) (Or.inr ⟨by rfl, rfl⟩) ?_ ?_
      rotate_left; · simp only [pk, i64_w, i32_w]; rfl
      refine pure_ (i := 17) (N := some 64) (v := undef) (a' := ?_) #[I, I, I, I, I, I, I, I, I, I, I, I, I, I, I, I, I, I, O, O, O, O, O, O, O] rfl rfl (any_of HT_.out (by kernel_rfl)) (fun _ _ _ h => h) (Or.inr ⟨by rfl, rfl⟩) ?_ ?_
      rotate_left; · simp only [pk, i64_w, i32_w]; rfl
      refine pure_ (i := 18) (N := some 65) (v := undef) (a' := ?_) #[I, I, I, I, I, I, I, I, I, I, I, I, I, I, I, I, I, I, I, O, O, O, O, O, O] rfl rfl (any_of HT_.out (by kernel_rfl)) (fun _ _ _ h => h) (Or.inr ⟨by rfl, rfl⟩) ?_ ?_
      rotate_left; · simp only [pk, i64_w, i32_w]; rfl
      refine pure_ (i := 19) (N := some 66) (v := undef) (a' := ?_) #[I, I, I, I, I, I, I, I, I, I, I, I, I, I, I, I, I, I, I, I, O, O, O, O, O] rfl rfl (any_of HT_.out (by kernel_rfl)) (fun _ _ _ h => h) (Or.inr ⟨by rfl, rfl⟩) ?_ ?_
      rotate_left; · simp only [pk, i64_w, i32_w]; rfl
      refine pure_ (i := 20) (N := some 67) (v := undef) (a' := ?_) #[I, I, I, I, I, I, I, I, I, I, I, I, I, I, I, I, I, I, I, I, I, O, O, O, O] rfl rfl (any_of HT_.out (by kernel_rfl)) (fun _ _ _ h => h) (Or.inr ⟨by rfl, rfl⟩) ?_ ?_
      rotate_left; · simp only [pk, i64_w, i32_w]; rfl
      refine pure_ (i := 21) (N := some 68) (v := undef) (a' := ?_) #[I, I, I, I, I, I, I, I, I, I, I, I, I, I, I, I, I, I, I, I, I, I, O, O, O] rfl rfl (any_of HT_.out (by kernel_rfl)) (fun _ _ _ h => h) (Or.inr ⟨by rfl, rfl⟩) ?_ ?_
      rotate_left; · simp only [pk, i64_w, i32_w]; rfl
      refine pure_ (i := 22) (N := some 69) (v := undef) (a' := ?_) #[I, I, I, I, I, I, I, I, I, I, I, I, I, I, I, I, I, I, I, I, I, I, I, O, O] rfl rfl (any_of HT_.out (by kernel_rfl)) (fun _ _ _ h => h) (Or.inr ⟨by rfl, rfl⟩) ?_ ?_
      rotate_left; · simp only [pk, i64_w, i32_w]; rfl
      refine pure_ (i := 23) (N := some 70) (v := undef) (a' := ?_) #[I, I, I, I, I, I, I, I, I, I, I, I, I, I, I, I, I, I, I, I, I, I, I, I, O] rfl rfl (any_of HT_.out (by kernel_rfl)) (fun _ _ _ h => h) (Or.inr ⟨by rfl, rfl⟩) ?_ ?_
      rotate_left; · simp only [pk, i64_w, i32_w]; rfl
      refine pure_ (i := 24) (N := some 71) (v := ?_) (a' := ?_) #[I, I, I, I, I, I, I, I, I, I, I, I, I, I, I, I, I, I, I, I, I, I, I, I, I] rfl rfl (any_of HT_.out (by kernel_rfl)) (fun _ _ _ h => h) (Or.inl ⟨by rfl, ?_⟩) ?_ ?_
      rotate_left; · intro w'; go_simp; with_reducible rfl
      rotate_left; · simp only [pk, i64_w, i32_w]; rfl
      refine done_ (done_of HT_.out (by kernel_rfl)) ?_
      try go_wp2
      go_ret
      exact ⟨ez, be w⟩
     subst c22
     rw [if_pos rfl] at H
     have c23b0 := eq_true (of_decide_eq_true (by first | (with_reducible assumption) | assumption) : 0 ≤ x42_2)
     by_cases c24 : x42_2 ≤ (((rd_T52 l0 a1).f3).length : Int)
     rotate_left; · rw [if_neg c24] at H; exact absurd H (by simp)
     rw [if_pos c24] at H
     have c24b0 := eq_true c24
     have c24b1 : decide (x42_2 ≤ (((rd_T52 l0 a1).f3).length : Int)) = true := decide_eq_true c24
     clear c24
     obtain ⟨t290, A250, H⟩ := Option.bind_eq_some_iff.mp H
     try dsimp only at H
     have A25 := As.mk A250
     clear A250
     by_cases c26 : t290 = true
     ·
      subst c26
      rw [if_pos rfl] at H
      obtain rfl := Option.some.inj H
      have p287 : 0 ≤ (x42_2 : Int) := od
      have q287 : x42_2 < (((rd_T52 l0 a1).f3).length : Int) := od
      obtain ⟨ad287, e287, hx287_0⟩ := Kd.at_int HR281_3.out x42_2 p287 q287
      cases e287
      replace hx287_0 := ce HB.out hx287_0
      replace p287 := eq_true p287
      replace q287 := eq_true q287
      try go_wp2
      replace BK282 := As.mk (blk_drew BK282.out)
      replace HB := As.mk (below_drew1 HB.out)
      refine start_ (n := 25) (S := fun w' => w'.cell? ⟨gb282, 0, none⟩ = some (.int .i64 ((rd_T52 l0 a1).f0)) ∧ w'.cell? ⟨gb282, 1, none⟩ = some (.int .i64 ((rd_T52 l0 a1).f1)) ∧ w'.cell? ⟨gb282, 2, none⟩ = some (.string ((rd_T52 l0 a1).f2)) ∧ w'.cell? ⟨gb282, 3, none⟩ = some (.slice (some ad287) ((rd_T52 l0 a1).f3).length c281_3)) (ds := []) #[O, O, O, O, O, O, O, O, O, O, O, O, O, O, O, O, O, O, O, O, O, O, O, O, O] (by kernel_rfl) rfl rfl ⟨(blk_cell BK282.out 0).trans rfl, (blk_cell BK282.out 1).trans rfl, (blk_cell BK282.out 2).trans rfl, (blk_cell BK282.out 3).trans rfl⟩ (fun hHeld => ?_); refine with_tabW impl_NodeOk.tab10 impl_NodeOk.bits10 (fun HT_ HW_ => ?_)
      generalize wr.drew = w27 at BK282 HB hHeld ⊢
      refine pure_ (i := 0) (N := some 47) (v := ?_) (a' := ?_) #[I, O, O, O, O, O, O, O, O, O, O, O, O, O, O, O, O, O, O, O, O, O, O, O, O] rfl rfl (any_of HT_.out (by kernel_rfl)) (fun _ _ _ h => h) (Or.inl ⟨by rfl, ?_⟩) ?_ ?_
      rotate_left; · intro w'; go_simp; with_reducible rfl
      rotate_left; · simp only [pk, i64_w, i32_w]; rfl
      refine pure_ (i := 1) (N := some 48) (v := ?_) (a' := ?_) #[I, I, O, O, O, O, O, O, O, O, O, O, O, O, O, O, O, O, O, O, O, O, O, O, O] rfl rfl (any_of HT_.out (by kernel_rfl)) (fun _ _ _ h => h) (Or.inl ⟨by rfl, ?_⟩) ?_ ?_
      rotate_left; · intro w'; go_simp; with_reducible rfl
      rotate_left; · simp only [pk, i64_w, i32_w]; rfl
      refine pure_ (i := 2) (N := some 49) (v := ?_) (a' := ?_) #[I, I, I, O, O, O, O, O, O, O, O, O, O, O, O, O, O, O, O, O, O, O, O, O, O] rfl rfl (any_of HT_.out (by kernel_rfl)) (fun _ _ _ h => h) (Or.inl ⟨by rfl, ?_⟩) ?_ ?_
      rotate_left; · intro w'; go_simp; with_reducible rfl
      rotate_left; · simp only [pk, i64_w, i32_w]; rfl
      refine one_ (i := 3) (N := some 50) #[I, I, I, I, O, O, O, O, O, O, O, O, O, O, O, O, O, O, O, O, O, O, O, O, O] rfl rfl (one_of HT_.out (by kernel_rfl)) (by decide) (fun K hK => ?_)
      refine goes_ Tryd.func39 (by kernel_rfl) rfl #[.int .i64 (rd ((rd_T52 l0 a1).f3) x42_2), .int .i64 0, .int .i64 (wrap64 (a1 - 1))] (by rfl) rfl rfl (by (try simp only [lm]); first | done | rfl | (simp only [List.length_drop, List.length_take]; rfl)) ?_
      with_reducible refine (impl_in.calls (rd ((rd_T52 l0 a1).f3) x42_2) 0 (wrap64 (a1 - 1)) true _ A21.out).mono ?_
      rintro e w' ⟨rfl, ⟨nd, rfl⟩⟩
      refine ⟨_, rfl, ?_⟩
      obtain ⟨i028, hi028, _, hsz28, _⟩ := info_parts info3
      obtain ⟨hcut28, hA28, hC28⟩ := print_take_of (P := Tryd.prog) (Value.int .i64) 0 43 3 .i64 Tryd.underlying43 hi028 hsz28 (some ad287) c281_3 ((rd_T52 l0 a1).f3) x42_2 (of_decide_eq_true (by first | (with_reducible assumption) | assumption)) (of_decide_eq_true (by first | (with_reducible assumption) | assumption)) HC281_3.out
      have HR289 := As.mk (Kd.C_of_reads (h1 := fun _ => rfl) (hA28 _ (Kd.reads_of_C HR281_3.out)))
      have HC289 := As.mk hC28
      clear hA28 hC28 hi028 hsz28
      refine hK.out _ _ ⟨(blk_cell BK282.out 0).trans rfl, (blk_cell BK282.out 1).trans rfl, (blk_cell BK282.out 2).trans rfl, (blk_cell BK282.out 3).trans rfl⟩ (fun hHeld => ?_)
      clear hK K
      refine norm_ (a' := ?_) ?_ ?_
      rotate_left
      ·
       show Act.put _ (some 50) _ = _
       simp only [pk, i64_w, i32_w]
       rfl
      refine pure_ (i := 4) (N := some 51) (v := ?_) (a' := ?_) #[I, I, I, I, I, O, O, O, O, O, O, O, O, O, O, O, O, O, O, O, O, O, O, O, O] rfl rfl (any_of HT_.out (by kernel_rfl)) (fun _ _ _ h => h) (Or.inl ⟨by rfl, ?_⟩) ?_ ?_
      rotate_left; · intro w'; go_simp; with_reducible rfl
      rotate_left; · simp only [pk, i64_w, i32_w]; rfl
      refine pure_ (i := 5) (N := some 52) (v := ?_) (a' := ?_) #[I, I, I, I, I, I, O, O, O, O, O, O, O, O, O, O, O, O, O, O, O, O, O, O, O] rfl rfl (any_of HT_.out (by kernel_rfl)) (fun _ _ _ h => h) (Or.inl ⟨by rfl, ?_⟩) ?_ ?_
      rotate_left; · intro w'; go_simp; with_reducible rfl
      rotate_left; · simp only [pk, i64_w, i32_w]; rfl
      refine pure_ (i := 6) (N := some 53) (v := ?_) (a' := ?_) #[I, I, I, I, I, I, I, O, O, O, O, O, O, O, O, O, O, O, O, O, O, O, O, O, O] rfl rfl (any_of HT_.out (by kernel_rfl)) (fun _ _ _ h => h) (Or.inl ⟨by rfl, ?_⟩) ?_ ?_
      rotate_left; · intro w'; go_simp; with_reducible rfl
      rotate_left; · simp only [pk, i64_w, i32_w]; rfl
      refine pure_ (i := 8) (N := some 55) (v := ?_) (a' := ?_) #[I, I, I, I, I, I, I, O, I, O, O, O, O, O, O, O, O, O, O, O, O, O, O, O, O] rfl rfl (any_of HT_.out (by kernel_rfl)) (fun _ _ _ h => h) (Or.inl ⟨by rfl, ?_⟩) ?_ ?_
      rotate_left; · intro w'; go_simp; with_reducible rfl
      rotate_left; · simp only [pk, i64_w, i32_w]; rfl
      refine pure_ (i := 10) (N := some 57) (v := ?_) (a' := ?_) #[I, I, I, I, I, I, I, O, I, O, I, O, O, O, O, O, O, O, O, O, O, O, O, O, O] rfl rfl (any_of HT_.out (by kernel_rfl)) (fun _ _ _ h => h) (Or.inl ⟨by rfl, ?_⟩) ?_ ?_
      rotate_left; · intro w'; go_simp; with_reducible rfl
      rotate_left; · simp only [pk, i64_w, i32_w]; rfl
      refine take_ (i := 7) (N := some 54) (v := ?_) (a' := ?_) #[I, I, I, I, I, I, I, I, I, O, I, O, O, O, O, O, O, O, O, O, O, O, O, O, O] rfl rfl (take_ofW HT_.out HW_.out (by kernel_rfl)) (fun _ _ _ h => h) (Or.inl ⟨by rfl, ?_⟩) hHeld ?_ ?_
      rotate_left; · rintro w' ⟨s0, s1, s2, s3⟩; go_simp; with_reducible rfl
      rotate_left; · simp only [pk, i64_w, i32_w]; rfl
      refine pure_ (i := 9) (N := some 56) (v := ?_) (a' := ?_) #[I, I, I, I, I, I, I, I, I, I, I, O, O, O, O, O, O, O, O, O, O, O, O, O, O] rfl rfl (any_of HT_.out (by kernel_rfl)) (fun _ _ _ h => h) (Or.inl ⟨by rfl, ?_⟩) ?_ ?_
      rotate_left; · intro w'; go_simp; with_reducible rfl
      rotate_left; · simp only [pk, i64_w, i32_w]; rfl
      refine one_ (i := 11) (N := some 58) #[I, I, I, I, I, I, I, I, I, I, I, I, O, O, O, O, O, O, O, O, O, O, O, O, O] rfl rfl (one_of HT_.out (by kernel_rfl)) (by decide) (fun K hK => ?_)
      refine goes_ Tryd.func55 (by kernel_rfl) rfl #[.slice (some ad287) (((rd_T52 l0 a1).f3).take (x42_2 : Int).toNat).length c281_3, .int .i64 (rd ((rd_T52 l0 a1).f3) x42_2)] (by rfl) rfl rfl (by (try simp only [lm]); first | done | (rw [show (((rd_T52 l0 a1).f3).take (x42_2 : Int).toNat).length = x42_2.toNat from (by rw [List.length_take]; have h_ : (x42_2 : Int) ≤ (((rd_T52 l0 a1).f3).length : Int) := od; omega)] <;> rfl) | rfl | (simp only [List.length_drop, List.length_take]; rfl)) ?_
      with_reducible refine (impl_hasInt.calls k2 _ _ (((rd_T52 l0 a1).f3).take (x42_2 : Int).toNat) (rd ((rd_T52 l0 a1).f3) x42_2) true _ ?side1 ?side2 A25.out).mono ?_
      (case side1 => exact Kd.C_below HR289.out (be w))
      (case side2 => exact HC289.out)
      rintro e w' ⟨rfl, ⟨nd, rfl⟩⟩
      refine ⟨_, rfl, ?_⟩
      refine hK.out _ _ ⟨(blk_cell BK282.out 0).trans rfl, (blk_cell BK282.out 1).trans rfl, (blk_cell BK282.out 2).trans rfl, (blk_cell BK282.out 3).trans rfl⟩ (fun hHeld => ?_)
      clear hK K
      refine norm_ (a' := ?_) ?_ ?_
      rotate_left
      ·
       show Act.put _ (some 58) _ = _
       simp only [pk, i64_w, i32_w]
       rfl
      refine pure_ (i := 12) (N := some 59) (v := ?_) (a' := ?_) #[I, I, I, I, I, I, I, I, I, I, I, I, I, O, O, O, O, O, O, O, O, O, O, O, O] rfl rfl (any_of HT_.out (by kernel_rfl)) (fun _ _ _ h => h) (Or.inl ⟨by rfl, ?_⟩) ?_ ?_
      rotate_left; · intro w'; go_simp; with_reducible rfl
      rotate_left; · simp only [pk, i64_w, i32_w]; rfl
      refine pure_ (i := 13) (N := some 60) (v := ?_) (a' := ?_) #[I, I, I, I, I, I, I, I, I, I, I, I, I, I, O, O, O, O, O, O, O, O, O, O, O] rfl rfl (any_of HT_.out (by kernel_rfl)) (fun _ _ _ h => h) (Or.inl ⟨by rfl, ?_⟩) ?_ ?_
      rotate_left; · intro w'; go_simp; with_reducible rfl
      rotate_left; · simp only [pk, i64_w, i32_w]; rfl
      refine pure_ (i := 14) (N := some 61) (v := undef) (a' := ?_) #[I, I, I, I, I, I, I, I, I, I, I, I, I, I, I, O, O, O, O, O, O, O, O, O, O] rfl rfl (any_of HT_.out (by kernel_rfl)) (fun _ _ _ h => h) (Or.inr ⟨by rfl, rfl⟩) ?_ ?_
      rotate_left; · simp only [pk, i64_w, i32_w]; rfl
      refine pure_ (i := 15) (N := some 62) (v := undef) (a' := ?_) #[I, I, I, I, I, I, I, I, I, I, I, I, I, I, I, I, O, O, O, O, O, O, O, O, O] rfl rfl (any_of HT_.out (by kernel_rfl)) (fun _ _ _ h => h) (Or.inr ⟨by rfl, rfl⟩) ?_ ?_
      rotate_left; · simp only [pk, i64_w, i32_w]; rfl
      refine pure_ (i := 16) (N := some 63) (v := undef) (a' := ?_) #[I, I, I, I, I, I, I, I, I, I, I, I, I, I, I, I, I, O, O, O, O, O, O, O, O] rfl rfl (any_of HT_.out (by kernel_rfl)) (fun _ _ _ h => h) (Or.inr ⟨by rfl, rfl⟩) ?_ ?_
      rotate_left; · simp only [pk, i64_w, i32_w]; rfl
      refine pure_ (i := 17) (N := some 64) (v := undef) (a' := ?_) #[I, I, I, I, I, I, I, I, I, I, I, I, I, I, I, I, I, I, O, O, O, O, O, O, O] rfl rfl (any_of HT_.out (by kernel_rfl)) (fun _ _ _ h => h) (Or.inr ⟨by rfl, rfl⟩) ?_ ?_
      rotate_left; · simp only [pk, i64_w, i32_w]; rfl
      refine pure_ (i := 18) (N := some 65) (v := undef) (a' := ?_) #[I, I, I, I, I, I, I, I, I, I, I, I, I, I, I, I, I, I, I, O, O, O, O, O, O] rfl rfl (any_of HT_.out (by kernel_rfl)) (fun _ _ _ h => h) (Or.inr ⟨by rfl, rfl⟩) ?_ ?_
      rotate_left; · simp only [pk, i64_w, i32_w]; rfl
      refine pure_ (i := 19) (N := some 66) (v := undef) (a' := ?_) #[I, I, I, I, I, I, I, I, I, I, I, I, I, I, I, I, I, I, I, I, O, O, O, O, O] rfl rfl (any_of HT_.out (by kernel_rfl)) (fun _ _ _ h => h) (Or.inr ⟨by rfl, rfl⟩) ?_ ?_
      rotate_left; · simp only [pk, i64_w, i32_w]; rfl
      refine pure_ (i := 20) (N := some 67) (v := undef) (a' := ?_) #[I, I, I, I, I, I, I, I, I, I, I, I, I, I, I, I, I, I, I, I, I, O, O, O, O] rfl rfl (any_of HT_.out (by kernel_rfl)) (fun _ _ _ h => h) (Or.inr ⟨by rfl, rfl⟩) ?_ ?_
      rotate_left; · simp only [pk, i64_w, i32_w]; rfl
      refine pure_ (i := 21) (N := some 68) (v := undef) (a' := ?_) #[I, I, I, I, I, I, I, I, I, I, I, I, I, I, I, I, I, I, I, I, I, I, O, O, O] rfl rfl (any_of HT_.out (by kernel_rfl)) (fun _ _ _ h => h) (Or.inr ⟨by rfl, rfl⟩) ?_ ?_
      rotate_left; · simp only [pk, i64_w, i32_w]; rfl
      refine pure_ (i := 22) (N := some 69) (v := undef) (a' := ?_) #[I, I, I, I, I, I, I, I, I, I, I, I, I, I, I, I, I, I, I, I, I, I, I, O, O] rfl rfl (any_of HT_.out (by kernel_rfl)) (fun _ _ _ h => h) (Or.inr ⟨by rfl, rfl⟩) ?_ ?_
      rotate_left; · simp only [pk, i64_w, i32_w]; rfl
      refine pure_ (i := 23) (N := some 70) (v := undef) (a' := ?_) #[I, I, I, I, I, I, I, I, I, I, I, I, I, I, I, I, I, I, I, I, I, I, I, I, O] rfl rfl (any_of HT_.out (by kernel_rfl)) (fun _ _ _ h => h) (Or.inr ⟨by rfl, rfl⟩) ?_ ?_
      rotate_left; · simp only [pk, i64_w, i32_w]; rfl
      refine pure_ (i := 24) (N := some 71) (v := ?_) (a' := ?_) #[I, I, I, I, I, I, I, I, I, I, I, I, I, I, I, I, I, I, I, I, I, I, I, I, I] rfl rfl (any_of HT_.out (by kernel_rfl)) (fun _ _ _ h => h) (Or.inl ⟨by rfl, ?_⟩) ?_ ?_
      rotate_left; · intro w'; go_simp; with_reducible rfl
      rotate_left; · simp only [pk, i64_w, i32_w]; rfl
      refine done_ (done_of HT_.out (by kernel_rfl)) ?_
      try go_wp2
      go_ret
      exact ⟨ez, be w⟩
     replace c26 := Bool.eq_false_iff.mpr c26
     subst c26
     rw [if_neg (show ¬ (false = true) by decide)] at H
     by_cases c29 : 0 ≤ (rd ((rd_T52 l0 a1).f3) x42_2)
     rotate_left; · rw [if_neg c29] at H; exact absurd H (by simp)
     rw [if_pos c29] at H
     have c29b0 : decide (0 ≤ (rd ((rd_T52 l0 a1).f3) x42_2)) = true := decide_eq_true c29
     clear c29
     by_cases c30 : (rd ((rd_T52 l0 a1).f3) x42_2) < (l0.length : Int)
     rotate_left; · rw [if_neg c30] at H; exact absurd H (by simp)
     rw [if_pos c30] at H
     have c30b0 : decide ((rd ((rd_T52 l0 a1).f3) x42_2) < (l0.length : Int)) = true := decide_eq_true c30
     clear c30
     obtain ⟨t292, A310, H⟩ := Option.bind_eq_some_iff.mp H
     try dsimp only at H
     have A31 := As.mk A310
     clear A310
     by_cases c32 : t292 = true
     rotate_left
     ·
      replace c32 := Bool.eq_false_iff.mpr c32
      subst c32
      rw [if_neg (show ¬ (false = true) by decide)] at H
      obtain rfl := Option.some.inj H
      have p287 : 0 ≤ (x42_2 : Int) := od
      have q287 : x42_2 < (((rd_T52 l0 a1).f3).length : Int) := od
      obtain ⟨ad287, e287, hx287_0⟩ := Kd.at_int HR281_3.out x42_2 p287 q287
      cases e287
      replace hx287_0 := ce HB.out hx287_0
      replace p287 := eq_true p287
      replace q287 := eq_true q287
      try go_wp2
      replace BK282 := As.mk (blk_drew BK282.out)
      replace HB := As.mk (below_drew1 HB.out)
      have p291 : 0 ≤ ((rd ((rd_T52 l0 a1).f3) x42_2) : Int) := od
      have q291 : (rd ((rd_T52 l0 a1).f3) x42_2) < (l0.length : Int) := od
      obtain ⟨ad291, A291_3, c291_3, e291, hx291_0, hx291_1, hx291_2, hx291_3, hl291_3, hi291_3⟩ := at_T52 HR0.out (rd ((rd_T52 l0 a1).f3) x42_2) p291 q291
      have hw291_3 := hx291_3
      have hw291_2 := hx291_2
      have hw291_1 := hx291_1
      have hw291_0 := hx291_0
      obtain rfl : ad281 = ad291 := (by injection e291)
      replace hx291_0 := ce HB.out hx291_0
      replace hx291_1 := ce HB.out hx291_1
      replace hx291_2 := ce HB.out hx291_2
      replace hx291_3 := ce HB.out hx291_3
      have HR291_3 := As.mk hi291_3
      have HC291_3 := As.mk hl291_3
      clear hi291_3 hl291_3
      replace p291 := eq_true p291
      replace q291 := eq_true q291
      refine start_ (n := 25) (S := fun w' => w'.cell? ⟨gb282, 0, none⟩ = some (.int .i64 ((rd_T52 l0 a1).f0)) ∧ w'.cell? ⟨gb282, 1, none⟩ = some (.int .i64 ((rd_T52 l0 a1).f1)) ∧ w'.cell? ⟨gb282, 2, none⟩ = some (.string ((rd_T52 l0 a1).f2)) ∧ w'.cell? ⟨gb282, 3, none⟩ = some (.slice (some ad287) ((rd_T52 l0 a1).f3).length c281_3) ∧ w'.cell? (ad281.add (((rd ((rd_T52 l0 a1).f3) x42_2)).toNat * 4)) = some (.int .i64 ((rd_T52 l0 (rd ((rd_T52 l0 a1).f3) x42_2)).f0)) ∧ w'.cell? ⟨(ad281.add (((rd ((rd_T52 l0 a1).f3) x42_2)).toNat * 4)).block, (ad281.add (((rd ((rd_T52 l0 a1).f3) x42_2)).toNat * 4)).off + 1, none⟩ = some (.int .i64 ((rd_T52 l0 (rd ((rd_T52 l0 a1).f3) x42_2)).f1)) ∧ w'.cell? ⟨(ad281.add (((rd ((rd_T52 l0 a1).f3) x42_2)).toNat * 4)).block, (ad281.add (((rd ((rd_T52 l0 a1).f3) x42_2)).toNat * 4)).off + 2, none⟩ = some (.string ((rd_T52 l0 (rd ((rd_T52 l0 a1).f3) x42_2)).f2)) ∧ w'.cell? ⟨(ad281.add (((rd ((rd_T52 l0 a1).f3) x42_2)).toNat * 4)).block, (ad281.add (((rd ((rd_T52 l0 a1).f3) x42_2)).toNat * 4)).off + 3, none⟩ = some (.slice A291_3 ((rd_T52 l0 (rd ((rd_T52 l0 a1).f3) x42_2)).f3).length c291_3)) (ds := []) #[O, O, O, O, O, O, O, O, O, O, O, O, O, O, O, O, O, O, O, O, O, O, O, O, O] (by kernel_rfl) rfl rfl ⟨(blk_cell BK282.out 0).trans rfl, (blk_cell BK282.out 1).trans rfl, (blk_cell BK282.out 2).trans rfl, (blk_cell BK282.out 3).trans rfl, (ce HB.out hw291_0 :), (ce HB.out hw291_1 :), (ce HB.out hw291_2 :), (ce HB.out hw291_3 :)⟩ (fun hHeld => ?_); refine with_tabW impl_NodeOk.tab10 impl_NodeOk.bits10 (fun HT_ HW_ => ?_)
      generalize wr.drew = w35 at BK282 HB HR291_3 hx291_0 hx291_1 hx291_2 hx291_3 hHeld ⊢
      refine pure_ (i := 0) (N := some 47) (v := ?_) (a' := ?_) #[I, O, O, O, O, O, O, O, O, O, O, O, O, O, O, O, O, O, O, O, O, O, O, O, O] rfl rfl (any_of HT_.out (by kernel_rfl)) (fun _ _ _ h => h) (Or.inl ⟨by rfl, ?_⟩) ?_ ?_
      rotate_left; · intro w'; go_simp; with_reducible rfl
      rotate_left; · simp only [pk, i64_w, i32_w]; rfl
      refine pure_ (i := 1) (N := some 48) (v := ?_) (a' := ?_) #[I, I, O, O, O, O, O, O, O, O, O, O, O, O, O, O, O, O, O, O, O, O, O, O, O] rfl rfl (any_of HT_.out (by kernel_rfl)) (fun _ _ _ h => h) (Or.inl ⟨by rfl, ?_⟩) ?_ ?_
      rotate_left; · intro w'; go_simp; with_reducible rfl
      rotate_left; · simp only [pk, i64_w, i32_w]; rfl
      refine pure_ (i := 2) (N := some 49) (v := ?_) (a' := ?_) #[I, I, I, O, O, O, O, O, O, O, O, O, O, O, O, O, O, O, O, O, O, O, O, O, O] rfl rfl (any_of HT_.out (by kernel_rfl)) (fun _ _ _ h => h) (Or.inl ⟨by rfl, ?_⟩) ?_ ?_
      rotate_left; · intro w'; go_simp; with_reducible rfl
      rotate_left; · simp only [pk, i64_w, i32_w]; rfl
      refine one_ (i := 3) (N := some 50) #[I, I, I, I, O, O, O, O, O, O, O, O, O, O, O, O, O, O, O, O, O, O, O, O, O] rfl rfl (one_of HT_.out (by kernel_rfl)) (by decide) (fun K hK => ?_)
      refine goes_ Tryd.func39 (by kernel_rfl) rfl #[.int .i64 (rd ((rd_T52 l0 a1).f3) x42_2), .int .i64 0, .int .i64 (wrap64 (a1 - 1))] (by rfl) rfl rfl (by (try simp only [lm]); first | done | rfl | (simp only [List.length_drop, List.length_take]; rfl)) ?_
      with_reducible refine (impl_in.calls (rd ((rd_T52 l0 a1).f3) x42_2) 0 (wrap64 (a1 - 1)) true _ A21.out).mono ?_
      rintro e w' ⟨rfl, ⟨nd, rfl⟩⟩
      refine ⟨_, rfl, ?_⟩
      obtain ⟨i036, hi036, _, hsz36, _⟩ := info_parts info3
      obtain ⟨hcut36, hA36, hC36⟩ := print_take_of (P := Tryd.prog) (Value.int .i64) 0 43 3 .i64 Tryd.underlying43 hi036 hsz36 (some ad287) c281_3 ((rd_T52 l0 a1).f3) x42_2 (of_decide_eq_true (by first | (with_reducible assumption) | assumption)) (of_decide_eq_true (by first | (with_reducible assumption) | assumption)) HC281_3.out
      have HR289 := As.mk (Kd.C_of_reads (h1 := fun _ => rfl) (hA36 _ (Kd.reads_of_C HR281_3.out)))
      have HC289 := As.mk hC36
      clear hA36 hC36 hi036 hsz36
      refine hK.out _ _ ⟨(blk_cell BK282.out 0).trans rfl, (blk_cell BK282.out 1).trans rfl, (blk_cell BK282.out 2).trans rfl, (blk_cell BK282.out 3).trans rfl, (ce HB.out hw291_0 :), (ce HB.out hw291_1 :), (ce HB.out hw291_2 :), (ce HB.out hw291_3 :)⟩ (fun hHeld => ?_)
      clear hK K
      refine norm_ (a' := ?_) ?_ ?_
      rotate_left
      ·
       show Act.put _ (some 50) _ = _
       simp only [pk, i64_w, i32_w]
       rfl
      refine pure_ (i := 4) (N := some 51) (v := ?_) (a' := ?_) #[I, I, I, I, I, O, O, O, O, O, O, O, O, O, O, O, O, O, O, O, O, O, O, O, O] rfl rfl (any_of HT_.out (by kernel_rfl)) (fun _ _ _ h => h) (Or.inl ⟨by rfl, ?_⟩) ?_ ?_
      rotate_left; · intro w'; go_simp; with_reducible rfl
      rotate_left; · simp only [pk, i64_w, i32_w]; rfl
      refine pure_ (i := 5) (N := some 52) (v := ?_) (a' := ?_) #[I, I, I, I, I, I, O, O, O, O, O, O, O, O, O, O, O, O, O, O, O, O, O, O, O] rfl rfl (any_of HT_.out (by kernel_rfl)) (fun _ _ _ h => h) (Or.inl ⟨by rfl, ?_⟩) ?_ ?_
      rotate_left; · intro w'; go_simp; with_reducible rfl
      rotate_left; · simp only [pk, i64_w, i32_w]; rfl
      refine pure_ (i := 6) (N := some 53) (v := ?_) (a' := ?_) #[I, I, I, I, I, I, I, O, O, O, O, O, O, O, O, O, O, O, O, O, O, O, O, O, O] rfl rfl (any_of HT_.out (by kernel_rfl)) (fun _ _ _ h => h) (Or.inl ⟨by rfl, ?_⟩) ?_ ?_
      rotate_left; · intro w'; go_simp; with_reducible rfl
      rotate_left; · simp only [pk, i64_w, i32_w]; rfl
      refine pure_ (i := 8) (N := some 55) (v := ?_) (a' := ?_) #[I, I, I, I, I, I, I, O, I, O, O, O, O, O, O, O, O, O, O, O, O, O, O, O, O] rfl rfl (any_of HT_.out (by kernel_rfl)) (fun _ _ _ h => h) (Or.inl ⟨by rfl, ?_⟩) ?_ ?_
      rotate_left; · intro w'; go_simp; with_reducible rfl
      rotate_left; · simp only [pk, i64_w, i32_w]; rfl
      refine pure_ (i := 10) (N := some 57) (v := ?_) (a' := ?_) #[I, I, I, I, I, I, I, O, I, O, I, O, O, O, O, O, O, O, O, O, O, O, O, O, O] rfl rfl (any_of HT_.out (by kernel_rfl)) (fun _ _ _ h => h) (Or.inl ⟨by rfl, ?_⟩) ?_ ?_
      rotate_left; · intro w'; go_simp; with_reducible rfl
      rotate_left; · simp only [pk, i64_w, i32_w]; rfl
      refine take_ (i := 7) (N := some 54) (v := ?_) (a' := ?_) #[I, I, I, I, I, I, I, I, I, O, I, O, O, O, O, O, O, O, O, O, O, O, O, O, O] rfl rfl (take_ofW HT_.out HW_.out (by kernel_rfl)) (fun _ _ _ h => h) (Or.inl ⟨by rfl, ?_⟩) hHeld ?_ ?_
      rotate_left; · rintro w' ⟨s0, s1, s2, s3, s4, s5, s6, s7⟩; go_simp; with_reducible rfl
      rotate_left; · simp only [pk, i64_w, i32_w]; rfl
      refine pure_ (i := 9) (N := some 56) (v := ?_) (a' := ?_) #[I, I, I, I, I, I, I, I, I, I, I, O, O, O, O, O, O, O, O, O, O, O, O, O, O] rfl rfl (any_of HT_.out (by kernel_rfl)) (fun _ _ _ h => h) (Or.inl ⟨by rfl, ?_⟩) ?_ ?_
      rotate_left; · intro w'; go_simp; with_reducible rfl
      rotate_left; · simp only [pk, i64_w, i32_w]; rfl
      refine one_ (i := 11) (N := some 58) #[I, I, I, I, I, I, I, I, I, I, I, I, O, O, O, O, O, O, O, O, O, O, O, O, O] rfl rfl (one_of HT_.out (by kernel_rfl)) (by decide) (fun K hK => ?_)
      refine goes_ Tryd.func55 (by kernel_rfl) rfl #[.slice (some ad287) (((rd_T52 l0 a1).f3).take (x42_2 : Int).toNat).length c281_3, .int .i64 (rd ((rd_T52 l0 a1).f3) x42_2)] (by rfl) rfl rfl (by (try simp only [lm]); first | done | (rw [show (((rd_T52 l0 a1).f3).take (x42_2 : Int).toNat).length = x42_2.toNat from (by rw [List.length_take]; have h_ : (x42_2 : Int) ≤ (((rd_T52 l0 a1).f3).length : Int) := od; omega)] <;> rfl) | rfl | (simp only [List.length_drop, List.length_take]; rfl)) ?_
      with_reducible refine (impl_hasInt.calls k2 _ _ (((rd_T52 l0 a1).f3).take (x42_2 : Int).toNat) (rd ((rd_T52 l0 a1).f3) x42_2) false _ ?side1 ?side2 A25.out).mono ?_
      (case side1 => exact Kd.C_below HR289.out (be w))
      (case side2 => exact HC289.out)
      rintro e w' ⟨rfl, ⟨nd, rfl⟩⟩
      refine ⟨_, rfl, ?_⟩
      refine hK.out _ _ ⟨(blk_cell BK282.out 0).trans rfl, (blk_cell BK282.out 1).trans rfl, (blk_cell BK282.out 2).trans rfl, (blk_cell BK282.out 3).trans rfl, (ce HB.out hw291_0 :), (ce HB.out hw291_1 :), (ce HB.out hw291_2 :), (ce HB.out hw291_3 :)⟩ (fun hHeld => ?_)
      clear hK K
      refine norm_ (a' := ?_) ?_ ?_
      rotate_left
      ·
       show Act.put _ (some 58) _ = _
       simp only [pk, i64_w, i32_w]
       rfl
      refine pure_ (i := 12) (N := some 59) (v := ?_) (a' := ?_) #[I, I, I, I, I, I, I, I, I, I, I, I, I, O, O, O, O, O, O, O, O, O, O, O, O] rfl rfl (any_of HT_.out (by kernel_rfl)) (fun _ _ _ h => h) (Or.inl ⟨by rfl, ?_⟩) ?_ ?_
      rotate_left; · intro w'; go_simp; with_reducible rfl
      rotate_left; · simp only [pk, i64_w, i32_w]; rfl
      refine pure_ (i := 13) (N := some 60) (v := ?_) (a' := ?_) #[I, I, I, I, I, I, I, I, I, I, I, I, I, I, O, O, O, O, O, O, O, O, O, O, O] rfl rfl (any_of HT_.out (by kernel_rfl)) (fun _ _ _ h => h) (Or.inl ⟨by rfl, ?_⟩) ?_ ?_
      rotate_left; · intro w'; go_simp; with_reducible rfl
      rotate_left; · simp only [pk, i64_w, i32_w]; rfl
      refine pure_ (i := 14) (N := some 61) (v := ?_) (a' := ?_) #[I, I, I, I, I, I, I, I, I, I, I, I, I, I, I, O, O, O, O, O, O, O, O, O, O] rfl rfl (any_of HT_.out (by kernel_rfl)) (fun _ _ _ h => h) (Or.inl ⟨by rfl, ?_⟩) ?_ ?_
      rotate_left; · intro w'; go_simp; with_reducible rfl
      rotate_left; · simp only [pk, i64_w, i32_w]; rfl
      refine pure_ (i := 16) (N := some 63) (v := ?_) (a' := ?_) #[I, I, I, I, I, I, I, I, I, I, I, I, I, I, I, O, I, O, O, O, O, O, O, O, O] rfl rfl (any_of HT_.out (by kernel_rfl)) (fun _ _ _ h => h) (Or.inl ⟨by rfl, ?_⟩) ?_ ?_
      rotate_left; · intro w'; go_simp; with_reducible rfl
      rotate_left; · simp only [pk, i64_w, i32_w]; rfl
      refine pure_ (i := 17) (N := some 64) (v := ?_) (a' := ?_) #[I, I, I, I, I, I, I, I, I, I, I, I, I, I, I, O, I, I, O, O, O, O, O, O, O] rfl rfl (any_of HT_.out (by kernel_rfl)) (fun _ _ _ h => h) (Or.inl ⟨by rfl, ?_⟩) ?_ ?_
      rotate_left; · intro w'; go_simp; with_reducible rfl
      rotate_left; · simp only [pk, i64_w, i32_w]; rfl
      refine pure_ (i := 18) (N := some 65) (v := ?_) (a' := ?_) #[I, I, I, I, I, I, I, I, I, I, I, I, I, I, I, O, I, I, I, O, O, O, O, O, O] rfl rfl (any_of HT_.out (by kernel_rfl)) (fun _ _ _ h => h) (Or.inl ⟨by rfl, ?_⟩) ?_ ?_
      rotate_left; · intro w'; go_simp; with_reducible rfl
      rotate_left; · simp only [pk, i64_w, i32_w]; rfl
      refine pure_ (i := 19) (N := some 66) (v := ?_) (a' := ?_) #[I, I, I, I, I, I, I, I, I, I, I, I, I, I, I, O, I, I, I, I, O, O, O, O, O] rfl rfl (any_of HT_.out (by kernel_rfl)) (fun _ _ _ h => h) (Or.inl ⟨by rfl, ?_⟩) ?_ ?_
      rotate_left; · intro w'; go_simp; with_reducible rfl
      rotate_left; · simp only [pk, i64_w, i32_w]; rfl
      refine pure_ (i := 20) (N := some 67) (v := ?_) (a' := ?_) #[I, I, I, I, I, I, I, I, I, I, I, I, I, I, I, O, I, I, I, I, I, O, O, O, O] rfl rfl (any_of HT_.out (by kernel_rfl)) (fun _ _ _ h => h) (Or.inl ⟨by rfl, ?_⟩) ?_ ?_
      rotate_left; · intro w'; go_simp; with_reducible rfl
      rotate_left; · simp only [pk, i64_w, i32_w]; rfl
      refine take_ (i := 15) (N := some 62) (v := ?_) (a' := ?_) #[I, I, I, I, I, I, I, I, I, I, I, I, I, I, I, I, I, I, I, I, I, O, O, O, O] rfl rfl (take_ofW HT_.out HW_.out (by kernel_rfl)) (fun _ _ _ h => h) (Or.inl ⟨by rfl, ?_⟩) hHeld ?_ ?_
      rotate_left; · rintro w' ⟨s0, s1, s2, s3, s4, s5, s6, s7⟩; go_simp; with_reducible rfl
      rotate_left; · simp only [pk, i64_w, i32_w]; rfl
      refine take_ (i := 21) (N := some 68) (v := ?_) (a' := ?_) #[I, I, I, I, I, I, I, I, I, I, I, I, I, I, I, I, I, I, I, I, I, I, O, O, O] rfl rfl (take_ofW HT_.out HW_.out (by kernel_rfl)) (fun _ _ _ h => h) (Or.inl ⟨by rfl, ?_⟩) hHeld ?_ ?_
      rotate_left; · rintro w' ⟨s0, s1, s2, s3, s4, s5, s6, s7⟩; go_simp; with_reducible rfl
      rotate_left; · simp only [pk, i64_w, i32_w]; rfl
      refine one_ (i := 22) (N := some 69) #[I, I, I, I, I, I, I, I, I, I, I, I, I, I, I, I, I, I, I, I, I, I, I, O, O] rfl rfl (one_of HT_.out (by kernel_rfl)) (by decide) (fun K hK => ?_)
      refine goes_ Tryd.func56 (by kernel_rfl) rfl #[.int .i64 ((rd_T52 l0 a1).f0), .int .i64 x42_2, .int .i64 ((rd_T52 l0 (rd ((rd_T52 l0 a1).f3) x42_2)).f0)] (by rfl) rfl rfl (by (try simp only [lm]); first | done | rfl | (simp only [List.length_drop, List.length_take]; rfl)) ?_
      with_reducible refine (impl_kidFits.calls k2 ((rd_T52 l0 a1).f0) x42_2 ((rd_T52 l0 (rd ((rd_T52 l0 a1).f3) x42_2)).f0) false _ A31.out).mono ?_
      rintro e w' ⟨rfl, ⟨nd, rfl⟩⟩
      refine ⟨_, rfl, ?_⟩
      refine hK.out _ _ ⟨(blk_cell BK282.out 0).trans rfl, (blk_cell BK282.out 1).trans rfl, (blk_cell BK282.out 2).trans rfl, (blk_cell BK282.out 3).trans rfl, (ce HB.out hw291_0 :), (ce HB.out hw291_1 :), (ce HB.out hw291_2 :), (ce HB.out hw291_3 :)⟩ (fun hHeld => ?_)
      clear hK K
      refine norm_ (a' := ?_) ?_ ?_
      rotate_left
      ·
       show Act.put _ (some 69) _ = _
       simp only [pk, i64_w, i32_w]
       rfl
      refine pure_ (i := 23) (N := some 70) (v := ?_) (a' := ?_) #[I, I, I, I, I, I, I, I, I, I, I, I, I, I, I, I, I, I, I, I, I, I, I, I, O] rfl rfl (any_of HT_.out (by kernel_rfl)) (fun _ _ _ h => h) (Or.inl ⟨by rfl, ?_⟩) ?_ ?_
      rotate_left; · intro w'; go_simp; with_reducible rfl
      rotate_left; · simp only [pk, i64_w, i32_w]; rfl
      refine pure_ (i := 24) (N := some 71) (v := ?_) (a' := ?_) #[I, I, I, I, I, I, I, I, I, I, I, I, I, I, I, I, I, I, I, I, I, I, I, I, I] rfl rfl (any_of HT_.out (by kernel_rfl)) (fun _ _ _ h => h) (Or.inl ⟨by rfl, ?_⟩) ?_ ?_
      rotate_left; · intro w'; go_simp; with_reducible rfl
      rotate_left; · simp only [pk, i64_w, i32_w]; rfl
      refine done_ (done_of HT_.out (by kernel_rfl)) ?_
      try go_wp2
      go_ret
      exact ⟨ez, be w⟩
     subst c32
     rw [if_pos rfl] at H
     have H' := As.mk H
     clear H
     have p287 : 0 ≤ (x42_2 : Int) := od
     have q287 : x42_2 < (((rd_T52 l0 a1).f3).length : Int) := od
     obtain ⟨ad287, e287, hx287_0⟩ := Kd.at_int HR281_3.out x42_2 p287 q287
     cases e287
     replace hx287_0 := ce HB.out hx287_0
     replace p287 := eq_true p287
     replace q287 := eq_true q287
     try go_wp2
     replace BK282 := As.mk (blk_drew BK282.out)
     replace HB := As.mk (below_drew1 HB.out)
     have p291 : 0 ≤ ((rd ((rd_T52 l0 a1).f3) x42_2) : Int) := od
     have q291 : (rd ((rd_T52 l0 a1).f3) x42_2) < (l0.length : Int) := od
     obtain ⟨ad291, A291_3, c291_3, e291, hx291_0, hx291_1, hx291_2, hx291_3, hl291_3, hi291_3⟩ := at_T52 HR0.out (rd ((rd_T52 l0 a1).f3) x42_2) p291 q291
     have hw291_3 := hx291_3
     have hw291_2 := hx291_2
     have hw291_1 := hx291_1
     have hw291_0 := hx291_0
     obtain rfl : ad281 = ad291 := (by injection e291)
     replace hx291_0 := ce HB.out hx291_0
     replace hx291_1 := ce HB.out hx291_1
     replace hx291_2 := ce HB.out hx291_2
     replace hx291_3 := ce HB.out hx291_3
     have HR291_3 := As.mk hi291_3
     have HC291_3 := As.mk hl291_3
     clear hi291_3 hl291_3
     replace p291 := eq_true p291
     replace q291 := eq_true q291
     refine start_ (n := 25) (S := fun w' => w'.cell? ⟨gb282, 0, none⟩ = some (.int .i64 ((rd_T52 l0 a1).f0)) ∧ w'.cell? ⟨gb282, 1, none⟩ = some (.int .i64 ((rd_T52 l0 a1).f1)) ∧ w'.cell? ⟨gb282, 2, none⟩ = some (.string ((rd_T52 l0 a1).f2)) ∧ w'.cell? ⟨gb282, 3, none⟩ = some (.slice (some ad287) ((rd_T52 l0 a1).f3).length c281_3) ∧ w'.cell? (ad281.add (((rd ((rd_T52 l0 a1).f3) x42_2)).toNat * 4)) = some (.int .i64 ((rd_T52 l0 (rd ((rd_T52 l0 a1).f3) x42_2)).f0)) ∧ w'.cell? ⟨(ad281.add (((rd ((rd_T52 l0 a1).f3) x42_2)).toNat * 4)).block, (ad281.add (((rd ((rd_T52 l0 a1).f3) x42_2)).toNat * 4)).off + 1, none⟩ = some (.int .i64 ((rd_T52 l0 (rd ((rd_T52 l0 a1).f3) x42_2)).f1)) ∧ w'.cell? ⟨(ad281.add (((rd ((rd_T52 l0 a1).f3) x42_2)).toNat * 4)).block, (ad281.add (((rd ((rd_T52 l0 a1).f3) x42_2)).toNat * 4)).off + 2, none⟩ = some (.string ((rd_T52 l0 (rd ((rd_T52 l0 a1).f3) x42_2)).f2)) ∧ w'.cell? ⟨(ad281.add (((rd ((rd_T52 l0 a1).f3) x42_2)).toNat * 4)).block, (ad281.add (((rd ((rd_T52 l0 a1).f3) x42_2)).toNat * 4)).off + 3, none⟩ = some (.slice A291_3 ((rd_T52 l0 (rd ((rd_T52 l0 a1).f3) x42_2)).f3).length c291_3)) (ds := []) #[O, O, O, O, O, O, O, O, O, O, O, O, O, O, O, O, O, O, O, O, O, O, O, O, O] (by kernel_rfl) rfl rfl ⟨(blk_cell BK282.out 0).trans rfl, (blk_cell BK282.out 1).trans rfl, (blk_cell BK282.out 2).trans rfl, (blk_cell BK282.out 3).trans rfl, (ce HB.out hw291_0 :), (ce HB.out hw291_1 :), (ce HB.out hw291_2 :), (ce HB.out hw291_3 :)⟩ (fun hHeld => ?_); refine with_tabW impl_NodeOk.tab10 impl_NodeOk.bits10 (fun HT_ HW_ => ?_)
     generalize wr.drew = w33 at BK282 HB HR291_3 hx291_0 hx291_1 hx291_2 hx291_3 hHeld ⊢
     refine pure_ (i := 0) (N := some 47) (v := ?_) (a' := ?_) #[I, O, O, O, O, O, O, O, O, O, O, O, O, O, O, O, O, O, O, O, O, O, O, O, O] rfl rfl (any_of HT_.out (by kernel_rfl)) (fun _ _ _ h => h) (Or.inl ⟨by rfl, ?_⟩) ?_ ?_
     rotate_left; · intro w'; go_simp; with_reducible rfl
     rotate_left; · simp only [pk, i64_w, i32_w]; rfl
     refine pure_ (i := 1) (N := some 48) (v := ?_) (a' := ?_) #[I, I, O, O, O, O, O, O, O, O, O, O, O, O, O, O, O, O, O, O, O, O, O, O, O] rfl rfl (any_of HT_.out (by kernel_rfl)) (fun _ _ _ h => h) (Or.inl ⟨by rfl, ?_⟩) ?_ ?_
     rotate_left; · intro w'; go_simp; with_reducible rfl
     rotate_left; · simp only [pk, i64_w, i32_w]; rfl
     refine pure_ (i := 2) (N := some 49) (v := ?_) (a' := ?_) #[I, I, I, O, O, O, O, O, O, O, O, O, O, O, O, O, O, O, O, O, O, O, O, O, O] rfl rfl (any_of HT_.out (by kernel_rfl)) (fun _ _ _ h => h) (Or.inl ⟨by rfl, ?_⟩) ?_ ?_
     rotate_left; · intro w'; go_simp; with_reducible rfl
     rotate_left; · simp only [pk, i64_w, i32_w]; rfl
     refine one_ (i := 3) (N := some 50) #[I, I, I, I, O, O, O, O, O, O, O, O, O, O, O, O, O, O, O, O, O, O, O, O, O] rfl rfl (one_of HT_.out (by kernel_rfl)) (by decide) (fun K hK => ?_)
     refine goes_ Tryd.func39 (by kernel_rfl) rfl #[.int .i64 (rd ((rd_T52 l0 a1).f3) x42_2), .int .i64 0, .int .i64 (wrap64 (a1 - 1))] (by rfl) rfl rfl (by (try simp only [lm]); first | done | rfl | (simp only [List.length_drop, List.length_take]; rfl)) ?_
     with_reducible refine (impl_in.calls (rd ((rd_T52 l0 a1).f3) x42_2) 0 (wrap64 (a1 - 1)) true _ A21.out).mono ?_
     rintro e w' ⟨rfl, ⟨nd, rfl⟩⟩
     refine ⟨_, rfl, ?_⟩
     obtain ⟨i034, hi034, _, hsz34, _⟩ := info_parts info3
     obtain ⟨hcut34, hA34, hC34⟩ := print_take_of (P := Tryd.prog) (Value.int .i64) 0 43 3 .i64 Tryd.underlying43 hi034 hsz34 (some ad287) c281_3 ((rd_T52 l0 a1).f3) x42_2 (of_decide_eq_true (by first | (with_reducible assumption) | assumption)) (of_decide_eq_true (by first | (with_reducible assumption) | assumption)) HC281_3.out
     have HR289 := As.mk (Kd.C_of_reads (h1 := fun _ => rfl) (hA34 _ (Kd.reads_of_C HR281_3.out)))
     have HC289 := As.mk hC34
     clear hA34 hC34 hi034 hsz34
     refine hK.out _ _ ⟨(blk_cell BK282.out 0).trans rfl, (blk_cell BK282.out 1).trans rfl, (blk_cell BK282.out 2).trans rfl, (blk_cell BK282.out 3).trans rfl, (ce HB.out hw291_0 :), (ce HB.out hw291_1 :), (ce HB.out hw291_2 :), (ce HB.out hw291_3 :)⟩ (fun hHeld => ?_)
     clear hK K
     refine norm_ (a' := ?_) ?_ ?_
     rotate_left
     ·
      show Act.put _ (some 50) _ = _
      simp only [pk, i64_w, i32_w]
      rfl
     refine pure_ (i := 4) (N := some 51) (v := ?_) (a' := ?_) #[I, I, I, I, I, O, O, O, O, O, O, O, O, O, O, O, O, O, O, O, O, O, O, O, O] rfl rfl (any_of HT_.out (by kernel_rfl)) (fun _ _ _ h => h) (Or.inl ⟨by rfl, ?_⟩) ?_ ?_
     rotate_left; · intro w'; go_simp; with_reducible rfl
     rotate_left; · simp only [pk, i64_w, i32_w]; rfl
     refine pure_ (i := 5) (N := some 52) (v := ?_) (a' := ?_) #[I, I, I, I, I, I, O, O, O, O, O, O, O, O, O, O, O, O, O, O, O, O, O, O, O] rfl rfl (any_of HT_.out (by kernel_rfl)) (fun _ _ _ h => h) (Or.inl ⟨by rfl, ?_⟩) ?_ ?_
     rotate_left; · intro w'; go_simp; with_reducible rfl
     rotate_left; · simp only [pk, i64_w, i32_w]; rfl
     refine pure_ (i := 6) (N := some 53) (v := ?_) (a' := ?_) #[I, I, I, I, I, I, I, O, O, O, O, O, O, O, O, O, O, O, O, O, O, O, O, O, O] rfl rfl (any_of HT_.out (by kernel_rfl)) (fun _ _ _ h => h) (Or.inl ⟨by rfl, ?_⟩) ?_ ?_
     rotate_left; · intro w'; go_simp; with_reducible rfl
     rotate_left; · simp only [pk, i64_w, i32_w]; rfl
     refine pure_ (i := 8) (N := some 55) (v := ?_) (a' := ?_) #[I, I, I, I, I, I, I, O, I, O, O, O, O, O, O, O, O, O, O, O, O, O, O, O, O] rfl rfl (any_of HT_.out (by kernel_rfl)) (fun _ _ _ h => h) (Or.inl ⟨by rfl, ?_⟩) ?_ ?_
     rotate_left; · intro w'; go_simp; with_reducible rfl
     rotate_left; · simp only [pk, i64_w, i32_w]; rfl
     refine pure_ (i := 10) (N := some 57) (v := ?_) (a' := ?_) #[I, I, I, I, I, I, I, O, I, O, I, O, O, O, O, O, O, O, O, O, O, O, O, O, O] rfl rfl (any_of HT_.out (by kernel_rfl)) (fun _ _ _ h => h) (Or.inl ⟨by rfl, ?_⟩) ?_ ?_
     rotate_left; · intro w'; go_simp; with_reducible rfl
     rotate_left; · simp only [pk, i64_w, i32_w]; rfl
     refine take_ (i := 7) (N := some 54) (v := ?_) (a' := ?_) #[I, I, I, I, I, I, I, I, I, O, I, O, O, O, O, O, O, O, O, O, O, O, O, O, O] rfl rfl (take_ofW HT_.out HW_.out (by kernel_rfl)) (fun _ _ _ h => h) (Or.inl ⟨by rfl, ?_⟩) hHeld ?_ ?_
     rotate_left; · rintro w' ⟨s0, s1, s2, s3, s4, s5, s6, s7⟩; go_simp; with_reducible rfl
     rotate_left; · simp only [pk, i64_w, i32_w]; rfl
     refine pure_ (i := 9) (N := some 56) (v := ?_) (a' := ?_) #[I, I, I, I, I, I, I, I, I, I, I, O, O, O, O, O, O, O, O, O, O, O, O, O, O] rfl rfl (any_of HT_.out (by kernel_rfl)) (fun _ _ _ h => h) (Or.inl ⟨by rfl, ?_⟩) ?_ ?_
     rotate_left; · intro w'; go_simp; with_reducible rfl
     rotate_left; · simp only [pk, i64_w, i32_w]; rfl
     refine one_ (i := 11) (N := some 58) #[I, I, I, I, I, I, I, I, I, I, I, I, O, O, O, O, O, O, O, O, O, O, O, O, O] rfl rfl (one_of HT_.out (by kernel_rfl)) (by decide) (fun K hK => ?_)
     refine goes_ Tryd.func55 (by kernel_rfl) rfl #[.slice (some ad287) (((rd_T52 l0 a1).f3).take (x42_2 : Int).toNat).length c281_3, .int .i64 (rd ((rd_T52 l0 a1).f3) x42_2)] (by rfl) rfl rfl (by (try simp only [lm]); first | done | (rw [show (((rd_T52 l0 a1).f3).take (x42_2 : Int).toNat).length = x42_2.toNat from (by rw [List.length_take]; have h_ : (x42_2 : Int) ≤ (((rd_T52 l0 a1).f3).length : Int) := od; omega)] <;> rfl) | rfl | (simp only [List.length_drop, List.length_take]; rfl)) ?_
     with_reducible refine (impl_hasInt.calls k2 _ _ (((rd_T52 l0 a1).f3).take (x42_2 : Int).toNat) (rd ((rd_T52 l0 a1).f3) x42_2) false _ ?side1 ?side2 A25.out).mono ?_
     (case side1 => exact Kd.C_below HR289.out (be w))
     (case side2 => exact HC289.out)
     rintro e w' ⟨rfl, ⟨nd, rfl⟩⟩
     refine ⟨_, rfl, ?_⟩
     refine hK.out _ _ ⟨(blk_cell BK282.out 0).trans rfl, (blk_cell BK282.out 1).trans rfl, (blk_cell BK282.out 2).trans rfl, (blk_cell BK282.out 3).trans rfl, (ce HB.out hw291_0 :), (ce HB.out hw291_1 :), (ce HB.out hw291_2 :), (ce HB.out hw291_3 :)⟩ (fun hHeld => ?_)
     clear hK K
     refine norm_ (a' := ?_) ?_ ?_
     rotate_left
     ·
      show Act.put _ (some 58) _ = _
      simp only [pk, i64_w, i32_w]
      rfl
     refine pure_ (i := 12) (N := some 59) (v := ?_) (a' := ?_) #[I, I, I, I, I, I, I, I, I, I, I, I, I, O, O, O, O, O, O, O, O, O, O, O, O] rfl rfl (any_of HT_.out (by kernel_rfl)) (fun _ _ _ h => h) (Or.inl ⟨by rfl, ?_⟩) ?_ ?_
     rotate_left; · intro w'; go_simp; with_reducible rfl
     rotate_left; · simp only [pk, i64_w, i32_w]; rfl
     refine pure_ (i := 13) (N := some 60) (v := ?_) (a' := ?_) #[I, I, I, I, I, I, I, I, I, I, I, I, I, I, O, O, O, O, O, O, O, O, O, O, O] rfl rfl (any_of HT_.out (by kernel_rfl)) (fun _ _ _ h => h) (Or.inl ⟨by rfl, ?_⟩) ?_ ?_
     rotate_left; · intro w'; go_simp; with_reducible rfl
     rotate_left; · simp only [pk, i64_w, i32_w]; rfl
     refine pure_ (i := 14) (N := some 61) (v := ?_) (a' := ?_) #[I, I, I, I, I, I, I, I, I, I, I, I, I, I, I, O, O, O, O, O, O, O, O, O, O] rfl rfl (any_of HT_.out (by kernel_rfl)) (fun _ _ _ h => h) (Or.inl ⟨by rfl, ?_⟩) ?_ ?_
     rotate_left; · intro w'; go_simp; with_reducible rfl
     rotate_left; · simp only [pk, i64_w, i32_w]; rfl
     refine pure_ (i := 16) (N := some 63) (v := ?_) (a' := ?_) #[I, I, I, I, I, I, I, I, I, I, I, I, I, I, I, O, I, O, O, O, O, O, O, O, O] rfl rfl (any_of HT_.out (by kernel_rfl)) (fun _ _ _ h => h) (Or.inl ⟨by rfl, ?_⟩) ?_ ?_
     rotate_left; · intro w'; go_simp; with_reducible rfl
     rotate_left; · simp only [pk, i64_w, i32_w]; rfl
     refine pure_ (i := 17) (N := some 64) (v := ?_) (a' := ?_) #[I, I, I, I, I, I, I, I, I, I, I, I, I, I, I, O, I, I, O, O, O, O, O, O, O] rfl rfl (any_of HT_.out (by kernel_rfl)) (fun _ _ _ h => h) (Or.inl ⟨by rfl, ?_⟩) ?_ ?_
     rotate_left; · intro w'; go_simp; with_reducible rfl
     rotate_left; · simp only [pk, i64_w, i32_w]; rfl
     refine pure_ (i := 18) (N := some 65) (v := ?_) (a' := ?_) #[I, I, I, I, I, I, I, I, I, I, I, I, I, I, I, O, I, I, I, O, O, O, O, O, O] rfl rfl (any_of HT_.out (by kernel_rfl)) (fun _ _ _ h => h) (Or.inl ⟨by rfl, ?_⟩) ?_ ?_
     rotate_left; · intro w'; go_simp; with_reducible rfl
     rotate_left; · simp only [pk, i64_w, i32_w]; rfl
     refine pure_ (i := 19) (N := some 66) (v := ?_) (a' := ?_) #[I, I, I, I, I, I, I, I, I, I, I, I, I, I, I, O, I, I, I, I, O, O, O, O, O] rfl rfl (any_of HT_.out (by kernel_rfl)) (fun _ _ _ h => h) (Or.inl ⟨by rfl, ?_⟩) ?_ ?_
     rotate_left; · intro w'; go_simp; with_reducible rfl
     rotate_left; · simp only [pk, i64_w, i32_w]; rfl
     refine pure_ (i := 20) (N := some 67) (v := ?_) (a' := ?_) #[I, I, I, I, I, I, I, I, I, I, I, I, I, I, I, O, I, I, I, I, I, O, O, O, O] rfl rfl (any_of HT_.out (by kernel_rfl)) (fun _ _ _ h => h) (Or.inl ⟨by rfl, ?_⟩) ?_ ?_
     rotate_left; · intro w'; go_simp; with_reducible rfl
     rotate_left; · simp only [pk, i64_w, i32_w]; rfl
     refine take_ (i := 15) (N := some 62) (v := ?_) (a' := ?_) #[I, I, I, I, I, I, I, I, I, I, I, I, I, I, I, I, I, I, I, I, I, O, O, O, O] rfl rfl (take_ofW HT_.out HW_.out (by kernel_rfl)) (fun _ _ _ h => h) (Or.inl ⟨by rfl, ?_⟩) hHeld ?_ ?_
     rotate_left; · rintro w' ⟨s0, s1, s2, s3, s4, s5, s6, s7⟩; go_simp; with_reducible rfl
     rotate_left; · simp only [pk, i64_w, i32_w]; rfl
     refine take_ (i := 21) (N := some 68) (v := ?_) (a' := ?_) #[I, I, I, I, I, I, I, I, I, I, I, I, I, I, I, I, I, I, I, I, I, I, O, O, O] rfl rfl (take_ofW HT_.out HW_.out (by kernel_rfl)) (fun _ _ _ h => h) (Or.inl ⟨by rfl, ?_⟩) hHeld ?_ ?_
     rotate_left; · rintro w' ⟨s0, s1, s2, s3, s4, s5, s6, s7⟩; go_simp; with_reducible rfl
     rotate_left; · simp only [pk, i64_w, i32_w]; rfl
     refine one_ (i := 22) (N := some 69) #[I, I, I, I, I, I, I, I, I, I, I, I, I, I, I, I, I, I, I, I, I, I, I, O, O] rfl rfl (one_of HT_.out (by kernel_rfl)) (by decide) (fun K hK => ?_)
     refine goes_ Tryd.func56 (by kernel_rfl) rfl #[.int .i64 ((rd_T52 l0 a1).f0), .int .i64 x42_2, .int .i64 ((rd_T52 l0 (rd ((rd_T52 l0 a1).f3) x42_2)).f0)] (by rfl) rfl rfl (by (try simp only [lm]); first | done | rfl | (simp only [List.length_drop, List.length_take]; rfl)) ?_
     with_reducible refine (impl_kidFits.calls k2 ((rd_T52 l0 a1).f0) x42_2 ((rd_T52 l0 (rd ((rd_T52 l0 a1).f3) x42_2)).f0) true _ A31.out).mono ?_
     rintro e w' ⟨rfl, ⟨nd, rfl⟩⟩
     refine ⟨_, rfl, ?_⟩
     refine hK.out _ _ ⟨(blk_cell BK282.out 0).trans rfl, (blk_cell BK282.out 1).trans rfl, (blk_cell BK282.out 2).trans rfl, (blk_cell BK282.out 3).trans rfl, (ce HB.out hw291_0 :), (ce HB.out hw291_1 :), (ce HB.out hw291_2 :), (ce HB.out hw291_3 :)⟩ (fun hHeld => ?_)
     clear hK K
     refine norm_ (a' := ?_) ?_ ?_
     rotate_left
     ·
      show Act.put _ (some 69) _ = _
      simp only [pk, i64_w, i32_w]
      rfl
     refine pure_ (i := 23) (N := some 70) (v := ?_) (a' := ?_) #[I, I, I, I, I, I, I, I, I, I, I, I, I, I, I, I, I, I, I, I, I, I, I, I, O] rfl rfl (any_of HT_.out (by kernel_rfl)) (fun _ _ _ h => h) (Or.inl ⟨by rfl, ?_⟩) ?_ ?_
     rotate_left; · intro w'; go_simp; with_reducible rfl
     rotate_left; · simp only [pk, i64_w, i32_w]; rfl
     refine pure_ (i := 24) (N := some 71) (v := ?_) (a' := ?_) #[I, I, I, I, I, I, I, I, I, I, I, I, I, I, I, I, I, I, I, I, I, I, I, I, I] rfl rfl (any_of HT_.out (by kernel_rfl)) (fun _ _ _ h => h) (Or.inl ⟨by rfl, ?_⟩) ?_ ?_
     rotate_left; · intro w'; go_simp; with_reducible rfl
     rotate_left; · simp only [pk, i64_w, i32_w]; rfl
     refine done_ (done_of HT_.out (by kernel_rfl)) ?_
     try go_wp2
     go_roundg k2
     case measure => have := HJ7.out; have := HK2.out; omega
     case rel => exact ⟨(wrap64 (x42_2 + 1)), (by first | rfl | (simp; done) | (simp [*]; done)), H', ⟨by have := HJ7.out; have := HK2.out; omega⟩, ⟨bx BK282.out⟩, ⟨be w⟩⟩
end Go.Proofs.YtnepkmbknoanjaaDoor.PFnExactCopyNodes
