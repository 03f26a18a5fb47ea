/- Written by a program of this session (a turned copy of the kit's print): a contract for each Go function. No condition beside those in each statement. -/
import Derived.Test.YtmdpggibcjkfoaaDoorPFnExactProgramOkx0
import Derived.Test.YtmdpggibcjkfoaaDoorPFnExactProgramOkx1
import Derived.Test.YtmdpggibcjkfoaaDoorPFnExactProgramOkx2
import Derived.Test.YtmdpggibcjkfoaaDoorPFnExactProgramOkx4
import Derived.Test.YtmdpggibcjkfoaaDoorPFnExactProgramOkx9
import Derived.Test.YtmdpggibcjkfoaaDoorPFnExactProgramOkx10
import Derived.Test.YtmdpggibcjkfoaaDoorPFnExactProgramOkx13
namespace Go.Proofs.YtmdpggibcjkfoaaDoor.PFnExactProgramOk
open Go.RowKit Go.Proofs.YtmdpggibcjkfoaaDoor.Given Go.Proofs.YtmdpggibcjkfoaaDoorW.PrintWords Go.Proofs.YtmdpggibcjkfoaaDoorW.PrintLast Go.Proofs.YtmdpggibcjkfoaaDoorW.PrintMore
attribute [local go_sem] max2_int min2_int max_two min_two max_three min_three max_four min_four   -- for this text's walks alone
set_option linter.unusedVariables false
set_option linter.unusedSimpArgs false

/-! ### impl_ProgramOk: function 37 -/
mutual
def impl_ProgramOk.j0 : Nat → Int → Bool → List (S64) → List (S93) → Option (Bool)
 | 0, _, _, _, _ => none
 | k + 1, x3, x35, x359000, x359001 => if x35 = true then (some false) else (if 0 ≤ x3 then (if (x3 : Int).toNat ≤ 35184372088832 then (impl_ProgramOk.l0 k (List.replicate (x3 : Int).toNat 0) x359000 (x359000.length : Int) 0 x359000 x359001) else (none)) else (none))
def impl_ProgramOk.l0 : Nat → List Int → List (S64) → Int → Int → List (S64) → List (S93) → Option (Bool)
 | 0, _, _, _, _, _, _ => none
 | k + 1, x4, x39, x40, x41, x359000, x359001 => if x41 < x40 then (if 0 ≤ x41 then (if x41 < (x39.length : Int) then (impl_ProgramOk.l1 k x4 x39 x40 x41 ((rd_T64 x39 x41).f3) (((rd_T64 x39 x41).f3).length : Int) 0 x359000 x359001) else (none)) else (none)) else (impl_ProgramOk.l2 k x4 x359001 (x359001.length : Int) 0 x359000 x359001)
def impl_ProgramOk.l1 : Nat → List Int → List (S64) → Int → Int → List Int → Int → Int → List (S64) → List (S93) → Option (Bool)
 | 0, _, _, _, _, _, _, _, _, _ => none
 | k + 1, x4, x39, x40, x41, x46, x47, x48, x359000, x359001 => if x48 < x47 then (if 0 ≤ x48 then (if x48 < (x46.length : Int) then (if 0 ≤ (rd x46 x48) then (if (rd x46 x48) < (x4.length : Int) then (impl_ProgramOk.l1 k (x4.set ((rd x46 x48) : Int).toNat (wrap64 ((rd x4 (rd x46 x48)) + 1))) x39 x40 x41 x46 x47 (wrap64 (x48 + 1)) x359000 x359001) else (none)) else (none)) else (none)) else (none)) else (impl_ProgramOk.l0 k x4 x39 x40 (wrap64 (x41 + 1)) x359000 x359001)
def impl_ProgramOk.l2 : Nat → List Int → List (S93) → Int → Int → List (S64) → List (S93) → Option (Bool)
 | 0, _, _, _, _, _, _ => none
 | k + 1, x4, x61, x62, x63, x359000, x359001 => if x63 < x62 then (if 0 ≤ x63 then (if x63 < (x61.length : Int) then ((impl_fnOk.f k x359000 x359001 ((rd_T93 x61 x63).f0) ((rd_T93 x61 x63).f1) ((rd_T93 x61 x63).f2) ((rd_T93 x61 x63).f3) ((rd_T93 x61 x63).f4)).bind fun t372 => (if t372 = true then ((impl_FnAt.f k x359000 x359001 ((rd_T93 x61 x63).f0)).bind fun t373 => (impl_ProgramOk.j4 k x4 x61 x62 x63 (t373 != x63) x359000 x359001 ((rd_T93 x61 x63).f0) ((rd_T93 x61 x63).f1) ((rd_T93 x61 x63).f2) ((rd_T93 x61 x63).f3) ((rd_T93 x61 x63).f4))) else (impl_ProgramOk.j4 k x4 x61 x62 x63 true x359000 x359001 ((rd_T93 x61 x63).f0) ((rd_T93 x61 x63).f1) ((rd_T93 x61 x63).f2) ((rd_T93 x61 x63).f3) ((rd_T93 x61 x63).f4)))) else (none)) else (none)) else (impl_ProgramOk.l4 k x4 (x4.length : Int) 0)
def impl_ProgramOk.j4 : Nat → List Int → List (S93) → Int → Int → Bool → List (S64) → List (S93) → ByteArray → List (S95) → Int → Int → Int → Option (Bool)
 | 0, _, _, _, _, _, _, _, _, _, _, _, _ => none
 | k + 1, x4, x61, x62, x63, x79, x359000, x359001, x372000, x372001, x372002, x372003, x372004 => if x79 = true then (some false) else ((some (([x372003, x372004] : List Int) : List Int)).bind fun y374 => (impl_ProgramOk.l3 k x4 x61 x62 x63 y374 (y374.length : Int) 0 x359000 x359001))
def impl_ProgramOk.l3 : Nat → List Int → List (S93) → Int → Int → List Int → Int → Int → List (S64) → List (S93) → Option (Bool)
 | 0, _, _, _, _, _, _, _, _, _ => none
 | k + 1, x4, x61, x62, x63, x84, x85, x86, x359000, x359001 => if x86 < x85 then (if 0 ≤ x86 then (if x86 < (x84.length : Int) then (if (rd x84 x86) < 0 then (impl_ProgramOk.l3 k x4 x61 x62 x63 x84 x85 (wrap64 (x86 + 1)) x359000 x359001) else (if 0 ≤ (rd x84 x86) then (if (rd x84 x86) < (x4.length : Int) then (if (rd x4 (rd x84 x86)) = 0 then (impl_ProgramOk.l3 k (x4.set ((rd x84 x86) : Int).toNat (-1)) x61 x62 x63 x84 x85 (wrap64 (x86 + 1)) x359000 x359001) else (some false)) else (none)) else (none))) else (none)) else (none)) else (impl_ProgramOk.l2 k x4 x61 x62 (wrap64 (x63 + 1)) x359000 x359001)
def impl_ProgramOk.l4 : Nat → List Int → Int → Int → Option (Bool)
 | 0, _, _, _ => none
 | k + 1, x102, x103, x104 => if x104 < x103 then (if 0 ≤ x104 then (if x104 < (x102.length : Int) then (if (rd x102 x104) = 1 then (impl_ProgramOk.l4 k x102 x103 (wrap64 (x104 + 1))) else (if (rd x102 x104) = (-1) then (impl_ProgramOk.l4 k x102 x103 (wrap64 (x104 + 1))) else (some false))) else (none)) else (none)) else (some true)
end
def impl_ProgramOk.f (k : Nat) (l0_0 : List (S64)) (l0_1 : List (S93)) : Option (Bool) := (impl_in.f (l0_0.length : Int) 1 300).bind fun t359 => (if t359 = true then ((impl_in.f (l0_1.length : Int) 1 8).bind fun t360 => (if t360 = true then ((impl_DeepOf.f k l0_0 (wrap64 ((l0_0.length : Int) - 1))).bind fun t361 => (impl_ProgramOk.j0 k (l0_0.length : Int) (t361 == 0) l0_0 l0_1)) else (impl_ProgramOk.j0 k (l0_0.length : Int) true l0_0 l0_1))) else (impl_ProgramOk.j0 k (l0_0.length : Int) true l0_0 l0_1))
theorem impl_ProgramOk.mono_l : ∀ k, (∀ y0 y1 y2 y3, LeO (impl_ProgramOk.j0 k y0 y1 y2 y3) (impl_ProgramOk.j0 (k + 1) y0 y1 y2 y3)) ∧ (∀ y0 y1 y2 y3 y4 y5, LeO (impl_ProgramOk.l0 k y0 y1 y2 y3 y4 y5) (impl_ProgramOk.l0 (k + 1) y0 y1 y2 y3 y4 y5)) ∧ (∀ y0 y1 y2 y3 y4 y5 y6 y7 y8, LeO (impl_ProgramOk.l1 k y0 y1 y2 y3 y4 y5 y6 y7 y8) (impl_ProgramOk.l1 (k + 1) y0 y1 y2 y3 y4 y5 y6 y7 y8)) ∧ (∀ y0 y1 y2 y3 y4 y5, LeO (impl_ProgramOk.l2 k y0 y1 y2 y3 y4 y5) (impl_ProgramOk.l2 (k + 1) y0 y1 y2 y3 y4 y5)) ∧ (∀ y0 y1 y2 y3 y4 y5 y6 y7 y8 y9 y10 y11, LeO (impl_ProgramOk.j4 k y0 y1 y2 y3 y4 y5 y6 y7 y8 y9 y10 y11) (impl_ProgramOk.j4 (k + 1) y0 y1 y2 y3 y4 y5 y6 y7 y8 y9 y10 y11)) ∧ (∀ y0 y1 y2 y3 y4 y5 y6 y7 y8, LeO (impl_ProgramOk.l3 k y0 y1 y2 y3 y4 y5 y6 y7 y8) (impl_ProgramOk.l3 (k + 1) y0 y1 y2 y3 y4 y5 y6 y7 y8)) ∧ (∀ y0 y1 y2, LeO (impl_ProgramOk.l4 k y0 y1 y2) (impl_ProgramOk.l4 (k + 1) y0 y1 y2))
 | 0 => ⟨fun _ _ _ _ r h => by simp [impl_ProgramOk.j0] at h, fun _ _ _ _ _ _ r h => by simp [impl_ProgramOk.l0] at h, fun _ _ _ _ _ _ _ _ _ r h => by simp [impl_ProgramOk.l1] at h, fun _ _ _ _ _ _ r h => by simp [impl_ProgramOk.l2] at h, fun _ _ _ _ _ _ _ _ _ _ _ _ r h => by simp [impl_ProgramOk.j4] at h, fun _ _ _ _ _ _ _ _ _ r h => by simp [impl_ProgramOk.l3] at h, fun _ _ _ r h => by simp [impl_ProgramOk.l4] at h⟩
 | k + 1 => by
  obtain ⟨ih0, ih1, ih2, ih3, ih4, ih5, ih6⟩ := impl_ProgramOk.mono_l k
  refine ⟨?_, ?_, ?_, ?_, ?_, ?_, ?_⟩
  ·
   intro y0 y1 y2 y3
   unfold impl_ProgramOk.j0
   with_reducible repeat' first | exact ih0 _ _ _ _ | exact ih1 _ _ _ _ _ _ | exact ih2 _ _ _ _ _ _ _ _ _ | exact ih3 _ _ _ _ _ _ | exact ih4 _ _ _ _ _ _ _ _ _ _ _ _ | exact ih5 _ _ _ _ _ _ _ _ _ | exact ih6 _ _ _ | exact impl_DeepOf.mono _ _ _ | exact impl_FnAt.mono _ _ _ _ | exact impl_fnOk.mono _ _ _ _ _ _ _ _ | exact LeO.refl _ | exact LeO.none _ | refine LeO.ite ?_ ?_ | refine LeO.bind ?_ (fun _ => ?_)
  ·
   intro y0 y1 y2 y3 y4 y5
   unfold impl_ProgramOk.l0
   with_reducible repeat' first | exact ih0 _ _ _ _ | exact ih1 _ _ _ _ _ _ | exact ih2 _ _ _ _ _ _ _ _ _ | exact ih3 _ _ _ _ _ _ | exact ih4 _ _ _ _ _ _ _ _ _ _ _ _ | exact ih5 _ _ _ _ _ _ _ _ _ | exact ih6 _ _ _ | exact impl_DeepOf.mono _ _ _ | exact impl_FnAt.mono _ _ _ _ | exact impl_fnOk.mono _ _ _ _ _ _ _ _ | exact LeO.refl _ | exact LeO.none _ | refine LeO.ite ?_ ?_ | refine LeO.bind ?_ (fun _ => ?_)
  ·
   intro y0 y1 y2 y3 y4 y5 y6 y7 y8
   unfold impl_ProgramOk.l1
   with_reducible repeat' first | exact ih0 _ _ _ _ | exact ih1 _ _ _ _ _ _ | exact ih2 _ _ _ _ _ _ _ _ _ | exact ih3 _ _ _ _ _ _ | exact ih4 _ _ _ _ _ _ _ _ _ _ _ _ | exact ih5 _ _ _ _ _ _ _ _ _ | exact ih6 _ _ _ | exact impl_DeepOf.mono _ _ _ | exact impl_FnAt.mono _ _ _ _ | exact impl_fnOk.mono _ _ _ _ _ _ _ _ | exact LeO.refl _ | exact LeO.none _ | refine LeO.ite ?_ ?_ | refine LeO.bind ?_ (fun _ => ?_)
  ·
   intro y0 y1 y2 y3 y4 y5
   unfold impl_ProgramOk.l2
   with_reducible repeat' first | exact ih0 _ _ _ _ | exact ih1 _ _ _ _ _ _ | exact ih2 _ _ _ _ _ _ _ _ _ | exact ih3 _ _ _ _ _ _ | exact ih4 _ _ _ _ _ _ _ _ _ _ _ _ | exact ih5 _ _ _ _ _ _ _ _ _ | exact ih6 _ _ _ | exact impl_DeepOf.mono _ _ _ | exact impl_FnAt.mono _ _ _ _ | exact impl_fnOk.mono _ _ _ _ _ _ _ _ | exact LeO.refl _ | exact LeO.none _ | refine LeO.ite ?_ ?_ | refine LeO.bind ?_ (fun _ => ?_)
  ·
   intro y0 y1 y2 y3 y4 y5 y6 y7 y8 y9 y10 y11
   unfold impl_ProgramOk.j4
   with_reducible repeat' first | exact ih0 _ _ _ _ | exact ih1 _ _ _ _ _ _ | exact ih2 _ _ _ _ _ _ _ _ _ | exact ih3 _ _ _ _ _ _ | exact ih4 _ _ _ _ _ _ _ _ _ _ _ _ | exact ih5 _ _ _ _ _ _ _ _ _ | exact ih6 _ _ _ | exact impl_DeepOf.mono _ _ _ | exact impl_FnAt.mono _ _ _ _ | exact impl_fnOk.mono _ _ _ _ _ _ _ _ | exact LeO.refl _ | exact LeO.none _ | refine LeO.ite ?_ ?_ | refine LeO.bind ?_ (fun _ => ?_)
  ·
   intro y0 y1 y2 y3 y4 y5 y6 y7 y8
   unfold impl_ProgramOk.l3
   with_reducible repeat' first | exact ih0 _ _ _ _ | exact ih1 _ _ _ _ _ _ | exact ih2 _ _ _ _ _ _ _ _ _ | exact ih3 _ _ _ _ _ _ | exact ih4 _ _ _ _ _ _ _ _ _ _ _ _ | exact ih5 _ _ _ _ _ _ _ _ _ | exact ih6 _ _ _ | exact impl_DeepOf.mono _ _ _ | exact impl_FnAt.mono _ _ _ _ | exact impl_fnOk.mono _ _ _ _ _ _ _ _ | exact LeO.refl _ | exact LeO.none _ | refine LeO.ite ?_ ?_ | refine LeO.bind ?_ (fun _ => ?_)
  ·
   intro y0 y1 y2
   unfold impl_ProgramOk.l4
   with_reducible repeat' first | exact ih0 _ _ _ _ | exact ih1 _ _ _ _ _ _ | exact ih2 _ _ _ _ _ _ _ _ _ | exact ih3 _ _ _ _ _ _ | exact ih4 _ _ _ _ _ _ _ _ _ _ _ _ | exact ih5 _ _ _ _ _ _ _ _ _ | exact ih6 _ _ _ | exact impl_DeepOf.mono _ _ _ | exact impl_FnAt.mono _ _ _ _ | exact impl_fnOk.mono _ _ _ _ _ _ _ _ | exact LeO.refl _ | exact LeO.none _ | refine LeO.ite ?_ ?_ | refine LeO.bind ?_ (fun _ => ?_)
theorem impl_ProgramOk.mono : ∀ a0 a1 k, LeO (impl_ProgramOk.f k a0 a1) (impl_ProgramOk.f (k + 1) a0 a1) := by
 intro a0 a1 k
 obtain ⟨ih0, ih1, ih2, ih3, ih4, ih5, ih6⟩ := impl_ProgramOk.mono_l k
 unfold impl_ProgramOk.f
 with_reducible repeat' first | exact ih0 _ _ _ _ | exact ih1 _ _ _ _ _ _ | exact ih2 _ _ _ _ _ _ _ _ _ | exact ih3 _ _ _ _ _ _ | exact ih4 _ _ _ _ _ _ _ _ _ _ _ _ | exact ih5 _ _ _ _ _ _ _ _ _ | exact ih6 _ _ _ | exact impl_DeepOf.mono _ _ _ | exact impl_FnAt.mono _ _ _ _ | exact impl_fnOk.mono _ _ _ _ _ _ _ _ | exact LeO.refl _ | exact LeO.none _ | refine LeO.ite ?_ ?_ | refine LeO.bind ?_ (fun _ => ?_)
set_option maxHeartbeats 8000000 in
set_option maxRecDepth 100000 in
theorem impl_ProgramOk.calls (k : Nat) (A0_0 : Option Addr) (c0_0 : Nat) (l0_0 : List (S64)) (A0_1 : Option Addr) (c0_1 : Nat) (l0_1 : List (S93)) (r : Bool) (w : World) (hr0_0 : Kd.C k64 w A0_0 l0_0.length l0_0) (hc0_0 : l0_0.length ≤ c0_0) (hr0_1 : Kd.C k93 w A0_1 l0_1.length l0_1) (hc0_1 : l0_1.length ≤ c0_1) (h : impl_ProgramOk.f k l0_0 l0_1 = some r) :
  Calls Tryd.prog 37 #[.agg #[.slice A0_0 l0_0.length c0_0, .slice A0_1 l0_1.length c0_1]] w fun e w' => e = .returned (.bool r) ∧ Below w.heap.size w w' := by
 have hu52 := Tryd.underlying52
 have hu64 := Tryd.underlying64
 have hu93 := Tryd.underlying93
 have HR0_0 := As.mk hr0_0
 have HC0_0 := As.mk hc0_0
 clear hr0_0 hc0_0
 have HR0_1 := As.mk hr0_1
 have HC0_1 := As.mk hc0_1
 clear hr0_1 hc0_1
 have HB := As.mk (Below.refl w.heap.size w)
 have H : ((impl_in.f (l0_0.length : Int) 1 300).bind fun t359 => (if t359 = true then ((impl_in.f (l0_1.length : Int) 1 8).bind fun t360 => (if t360 = true then ((impl_DeepOf.f k l0_0 (wrap64 ((l0_0.length : Int) - 1))).bind fun t361 => (impl_ProgramOk.j0 k (l0_0.length : Int) (t361 == 0) l0_0 l0_1)) else (impl_ProgramOk.j0 k (l0_0.length : Int) true l0_0 l0_1))) else (impl_ProgramOk.j0 k (l0_0.length : Int) true l0_0 l0_1))) = some r := h
 clear h
 have HC2 := As.mk H
 clear H
 go_enter Tryd.func37, Tryd.ntmps37
 go_upto_region 2 with (first | ((with_reducible refine gate_dst (N := 1) rfl ?_); (try (refine gate_guard (by rfl) ?_; dsimp only)); refine box_event ?hg (N := 1) ?hd (cs := #[.slice A0_0 l0_0.length c0_0, .slice A0_1 l0_1.length c0_1]) (t := 52) ?hr ?_; (case hd => rfl); (case hg => rfl); (case hr => first | (go_simp; done) | (go_simp; rfl)); intro gb358 hg w3 hbox hb; have BK358 := As.mk (hbox); have GW358 := As.mk (gs w hg); have GE358 := As.mk (gs w hg); replace HB := As.mk (below_step (be w) hb); clear hb hbox hg; obtain ⟨hcz4_0, hcz4_1, hfz4_0, hfz4_1⟩ := cl2 BK358.out))
 (try simp only [pk])
 go_cut [35] (fun v35 wc => ∃ (kq : Nat) (x35_1 : Bool), v35 = .bool x35_1 ∧ As (impl_ProgramOk.j0 kq (l0_0.length : Int) x35_1 l0_0 l0_1 = some r) ∧ As (kq ≤ k) ∧ As (wc.heap[gb358]? = some (.cells #[(.slice A0_0 l0_0.length c0_0), (.slice A0_1 l0_1.length c0_1)] 52 (0, 0))) ∧ As (Below w.heap.size w wc))
 case first =>
  have H := HC2.out
  clear HC2
  obtain ⟨t359, A50, H⟩ := Option.bind_eq_some_iff.mp H
  try dsimp only at H
  have A5 := As.mk A50
  clear A50
  by_cases c6 : t359 = true
  rotate_left
  ·
   replace c6 := Bool.eq_false_iff.mpr c6
   subst c6
   rw [if_neg (show ¬ (false = true) by decide)] at H
   have H' := As.mk H
   clear H
   go_wp2_with (first | ((with_reducible refine gate_callee (f := 45) rfl ?_); refine goesL_ (some 19) rfl rfl Tryd.func45 (by kernel_rfl) rfl #[.int .i64 (l0_0.length : Int), .int .i64 1, .int .i64 300] rfl (by (try simp only [lm]); first | done | rfl | (simp only [List.length_drop, List.length_take]; rfl)) ?_; (with_reducible refine (impl_in.calls (l0_0.length : Int) 1 300 false _ A5.out).mono ?_); rintro e w' ⟨rfl, ⟨nd, rfl⟩⟩; refine ⟨_, rfl, ?_⟩))
   go_meet
   case rel => exact ⟨_, (true), (by first | rfl | (simp; done) | (simp [*]; done)), H', ⟨by first | omega | exact Nat.le_refl _⟩, ⟨bx BK358.out⟩, ⟨be w⟩⟩
  subst c6
  rw [if_pos rfl] at H
  obtain ⟨t360, A70, H⟩ := Option.bind_eq_some_iff.mp H
  try dsimp only at H
  have A7 := As.mk A70
  clear A70
  by_cases c8 : t360 = true
  rotate_left
  ·
   replace c8 := Bool.eq_false_iff.mpr c8
   subst c8
   rw [if_neg (show ¬ (false = true) by decide)] at H
   have H' := As.mk H
   clear H
   go_wp2_with (first | ((with_reducible refine gate_callee (f := 45) rfl ?_); refine goesL_ (some 19) rfl rfl Tryd.func45 (by kernel_rfl) rfl #[.int .i64 (l0_0.length : Int), .int .i64 1, .int .i64 300] rfl (by (try simp only [lm]); first | done | rfl | (simp only [List.length_drop, List.length_take]; rfl)) ?_; (with_reducible refine (impl_in.calls (l0_0.length : Int) 1 300 true _ A5.out).mono ?_); rintro e w' ⟨rfl, ⟨nd, rfl⟩⟩; refine ⟨_, rfl, ?_⟩; obtain ⟨hcz12_0, hcz12_1, hfz12_0, hfz12_1⟩ := cl2 BK358.out) | (go_at_call 45; (with_reducible refine (impl_in.calls (l0_1.length : Int) 1 8 false _ A7.out).mono ?_); rintro e w' ⟨rfl, ⟨nd, rfl⟩⟩))
   go_meet
   case rel => exact ⟨_, (true), (by first | rfl | (simp; done) | (simp [*]; done)), H', ⟨by first | omega | exact Nat.le_refl _⟩, ⟨bx BK358.out⟩, ⟨be w⟩⟩
  subst c8
  rw [if_pos rfl] at H
  obtain ⟨t361, A90, H⟩ := Option.bind_eq_some_iff.mp H
  try dsimp only at H
  have A9 := As.mk A90
  clear A90
  have H' := As.mk H
  clear H
  go_wp2_with (first | ((with_reducible refine gate_callee (f := 45) rfl ?_); refine goesL_ (some 19) rfl rfl Tryd.func45 (by kernel_rfl) rfl #[.int .i64 (l0_0.length : Int), .int .i64 1, .int .i64 300] rfl (by (try simp only [lm]); first | done | rfl | (simp only [List.length_drop, List.length_take]; rfl)) ?_; (with_reducible refine (impl_in.calls (l0_0.length : Int) 1 300 true _ A5.out).mono ?_); rintro e w' ⟨rfl, ⟨nd, rfl⟩⟩; refine ⟨_, rfl, ?_⟩; obtain ⟨hcz10_0, hcz10_1, hfz10_0, hfz10_1⟩ := cl2 BK358.out) | (go_at_call 45; (with_reducible refine (impl_in.calls (l0_1.length : Int) 1 8 true _ A7.out).mono ?_); rintro e w' ⟨rfl, ⟨nd, rfl⟩⟩) | (go_at_call 18; (try simp only [Go.IntWalk.i64_left]); (with_reducible refine (impl_DeepOf.calls k _ _ l0_0 (wrap64 ((l0_0.length : Int) - 1)) t361 _ ?side1 ?side2 A9.out).mono ?_); (case side1 => exact Kd.C_below HR0_0.out (be w)); (case side2 => exact HC0_0.out); rintro e w11 ⟨rfl, hb⟩; replace BK358 := As.mk (blk_below (bx BK358.out) hb); replace HB := As.mk (below_step (be w) hb); (try clear hb); (try clear hb2); (try clear hk); (try clear hi)))
  go_meet
  case rel => exact ⟨_, ((t361 == 0)), (by first | rfl | (simp; done) | (simp [*]; done)), H', ⟨by first | omega | exact Nat.le_refl _⟩, ⟨bx BK358.out⟩, ⟨be w⟩⟩
 case rest =>
  clear HC2
  (try clear hcz4_0); (try clear hcz4_1); (try clear hfz4_0); (try clear hfz4_1)
  obtain ⟨kq, x35_1, rfl, HA, HJ1, BK358, HB⟩ := hcut
  cases kq with
  | zero => exact absurd HA.out (by simp [impl_ProgramOk.j0])
  | succ kj1 =>
   have H := HA.out
   clear HA
   simp only [impl_ProgramOk.j0] at H
   by_cases c13 : x35_1 = true
   ·
    subst c13
    rw [if_pos rfl] at H
    obtain rfl := Option.some.inj H
    go_wp2
    go_ret
    exact ⟨by first | rfl | (simp [errW_none, errW_some] <;> rfl) | (simp [*, errW_none, errW_some] <;> rfl), be w⟩
   replace c13 := Bool.eq_false_iff.mpr c13
   subst c13
   rw [if_neg (show ¬ (false = true) by decide)] at H
   by_cases c14 : 0 ≤ (l0_0.length : Int)
   rotate_left
   ·
    rw [if_neg c14] at H
    exact absurd H (by simp)

   rw [if_pos c14] at H
   have c14b0 := eq_true c14
   have c14b1 : decide (0 ≤ (l0_0.length : Int)) = true := decide_eq_true c14
   clear c14
   by_cases c15 : ((l0_0.length : Int) : Int).toNat ≤ 35184372088832
   rotate_left
   ·
    rw [if_neg c15] at H
    exact absurd H (by simp)
   rw [if_pos c15] at H
   have c15b0 := eq_true c15
   have c15b1 : decide (((l0_0.length : Int) : Int).toNat ≤ 35184372088832) = true := decide_eq_true c15
   clear c15
   obtain ⟨y362, hy362⟩ : ∃ y_ : List Int, y_ = (List.replicate ((l0_0.length : Int) : Int).toNat 0) := ⟨_, rfl⟩
   replace H : (impl_ProgramOk.l0 kj1 y362 l0_0 (l0_0.length : Int) 0 l0_0 l0_1) = some r := by first | (rw [hy362]; with_reducible exact H) | (have H2_ := (Option.bind_some _ _).symm.trans H; rw [hy362]; with_reducible exact H2_) | (have H2_ := (Option.bind_some _ _).symm.trans H; with_reducible exact H2_) | with_reducible exact H | (rw [hy362]; exact H) | exact H
   have Ny362 := As.mk hy362
   clear hy362
   have H' := As.mk H
   clear H
   go_wp2_with (first | ((with_reducible refine gate_dst (N := 37) rfl ?_); (try (refine gate_guard (by rfl) ?_; dsimp only)); refine Kd.R_make (Kd.int .i64) _ 3 rfl (N := 37) rfl 60 _ _ rfl (l0_0.length : Int) rfl rfl Tryd.underlying60 (.int .i64 0) 8 info3 rfl (by decide) (by omega) 0 (ok := fun _ => True) (okp := fun _ => True) rfl (fun _ hk => hk) trivial (of_decide_eq_true (by first | (with_reducible assumption) | assumption)) (Nat.le_trans (Nat.mul_le_mul_right _ (of_decide_eq_true (by first | (with_reducible assumption) | assumption) : (l0_0.length : Int).toNat ≤ 35184372088832)) (by omega)) (Below.refl _ _) (Nat.le_refl _) ?_; intro v363 w16 ho17 hb hg_ hnew_; clear hg_ hnew_; (first | rw [← Ny362.out] at ho17 | (simp only [Int.reduceToNat] at ho17; rw [← Ny362.out] at ho17)); have HO364 := As.mk (Kd.R_lower ho17 (below_size (be w))); replace BK358 := As.mk (blk_below (bx BK358.out) hb); replace HB := As.mk (below_step (be w) hb); clear hb ho17; obtain ⟨hcz18_0, hcz18_1, hfz18_0, hfz18_1⟩ := cl2 BK358.out))
   go_loopg [41] kj1 (fun kq v41 w' => ∃ (x4_2 : List Int) (x41_2 : Int), v41 = .int .i64 x41_2 ∧ As (impl_ProgramOk.l0 kq x4_2 l0_0 (l0_0.length : Int) x41_2 l0_0 l0_1 = some r) ∧ As (kq ≤ kj1) ∧ As (Kd.R (Kd.int .i64) 3 w' w.heap.size (fun _ => True) v363 x4_2) ∧ As (w'.heap[gb358]? = some (.cells #[(.slice A0_0 l0_0.length c0_0), (.slice A0_1 l0_1.length c0_1)] 52 (0, 0))) ∧ As (Below w.heap.size w w'))
   case atStart => exact ⟨(y362), (0), (by first | rfl | (simp; done) | (simp [*]; done)), H', ⟨Nat.le_refl _⟩, ⟨by (with_reducible repeat (first | apply Kd.R_alloc | apply Kd.R_drewN | apply Kd.R_drew)); exact HO364.out⟩, ⟨bx BK358.out⟩, ⟨be w⟩⟩
   case round =>
    clear H'
    (try clear c13); (try clear c14); (try clear c14b0); (try clear c14b1); (try clear c15); (try clear c15b0); (try clear c15b1); (try clear hcz18_0); (try clear hcz18_1); (try clear hcz4_0); (try clear hcz4_1); (try clear hfz18_0); (try clear hfz18_1); (try clear hfz4_0); (try clear hfz4_1)
    obtain ⟨x4_2, x41_2, rfl, HA, HK2, HO_4, BK358, HB⟩ := hrel
    cases gk with
    | zero => exact absurd HA.out (by simp [impl_ProgramOk.l0])
    | succ k2 =>
     have H := HA.out
     clear HA
     simp only [impl_ProgramOk.l0] at H
     by_cases c19 : x41_2 < (l0_0.length : Int)
     ·
      rw [if_pos c19] at H
      have c19b0 : decide (x41_2 < (l0_0.length : Int)) = true := decide_eq_true c19
      clear c19
      by_cases c20 : 0 ≤ x41_2
      rotate_left
      ·
       rw [if_neg c20] at H
       exact absurd H (by simp)
      rw [if_pos c20] at H
      have c20b0 : decide (0 ≤ x41_2) = true := decide_eq_true c20
      clear c20
      by_cases c21 : x41_2 < (l0_0.length : Int)
      rotate_left
      ·
       rw [if_neg c21] at H
       exact absurd H (by simp)
      rw [if_pos c21] at H
      have c21b0 : decide (x41_2 < (l0_0.length : Int)) = true := decide_eq_true c21
      clear c21
      have H' := As.mk H
      clear H
      have p365 : 0 ≤ (x41_2 : Int) := of_decide_eq_true (by first | (with_reducible assumption) | assumption)
      have q365 : x41_2 < (l0_0.length : Int) := of_decide_eq_true (by first | (with_reducible assumption) | assumption)
      obtain ⟨ad365, A365_3, c365_3, e365, hx365_0, hx365_1, hx365_2, hx365_3, hl365_3, hi365_3⟩ := at_T64 HR0_0.out x41_2 p365 q365
      cases e365
      replace hx365_0 := ce HB.out hx365_0
      replace hx365_1 := ce HB.out hx365_1
      replace hx365_2 := ce HB.out hx365_2
      replace hx365_3 := ce HB.out hx365_3
      have HR365_3 := As.mk hi365_3
      have HC365_3 := As.mk hl365_3
      clear hi365_3 hl365_3
      replace p365 := eq_true p365
      replace q365 := eq_true q365
      go_wp2_with (first | ((with_reducible refine gate_dst (N := 6) rfl ?_); (try (refine gate_guard (by rfl) ?_; dsimp only)); refine box_event ?hg (N := 6) ?hd (cs := #[.int .i64 0, .int .i64 0, .string (⟨#[]⟩ : ByteArray), .slice none 0 0]) (t := 64) ?hr ?_; (case hd => rfl); (case hg => rfl); (case hr => first | (go_simp; done) | (go_simp; rfl)); intro gb366 hg w22 hbox hb; replace HO_4 := As.mk (Kd.R_below (by (with_reducible repeat (first | apply Kd.R_alloc | apply Kd.R_drewN | apply Kd.R_drew)); exact HO_4.out) hb); have BK366 := As.mk (hbox); have GW366 := As.mk (gs w hg); have GE366 := As.mk (gs w hg); replace HB := As.mk (below_step (be w) hb); have NB358_366 := As.mk (nl hg (bx BK358.out)); have NB366_358 := As.mk (ng hg (bx BK358.out)); replace BK358 := As.mk (blk_below (bx BK358.out) hb); clear hb hbox hg; have hnb23 := NB366_358.out; have hnc23 := NB358_366.out; obtain ⟨hcz24_0, hcz24_1, hcz24_2, hcz24_3, hfz24_0, hfz24_1, hfz24_2, hfz24_3⟩ := cl4 BK366.out))
      go_loopg [48] k2 (fun kq v48 w' => ∃ (x4_3 : List Int) (x48_3 : Int), v48 = .int .i64 x48_3 ∧ As (impl_ProgramOk.l1 kq x4_3 l0_0 (l0_0.length : Int) x41_2 ((rd_T64 l0_0 x41_2).f3) (((rd_T64 l0_0 x41_2).f3).length : Int) x48_3 l0_0 l0_1 = some r) ∧ As (kq ≤ k2) ∧ As (Kd.R (Kd.int .i64) 3 w' w.heap.size (fun _ => True) v363 x4_3) ∧ As (w'.heap[gb358]? = some (.cells #[(.slice (some ad365) l0_0.length c0_0), (.slice A0_1 l0_1.length c0_1)] 52 (0, 0))) ∧ As (w'.heap[gb366]? = some (.cells #[.int .i64 ((rd_T64 l0_0 x41_2).f0), .int .i64 ((rd_T64 l0_0 x41_2).f1), .string ((rd_T64 l0_0 x41_2).f2), (.slice A365_3 ((rd_T64 l0_0 x41_2).f3).length c365_3)] 64 (0, 0))) ∧ As (Below w.heap.size w w'))
      case atStart => exact ⟨(x4_2), (0), (by first | rfl | (simp; done) | (simp [*]; done)), H', ⟨Nat.le_refl _⟩, ⟨by (with_reducible repeat (first | apply Kd.R_alloc | apply Kd.R_drewN | apply Kd.R_drew)); exact Kd.R_mono (Kd.R_far (p := ⟨gb366, 3, none⟩) (Kd.R_far (p := ⟨gb366, 2, none⟩) (Kd.R_far (p := ⟨gb366, 1, none⟩) (Kd.R_far (p := ⟨gb366, 0, none⟩) (Kd.R_types HO_4.out BK366.out (by decide)) (fun _ hk => hk.2) (.int .i64 ((rd_T64 l0_0 x41_2).f0))) (fun _ hk => hk.2) (.int .i64 ((rd_T64 l0_0 x41_2).f1))) (fun _ hk => hk.2) (.string ((rd_T64 l0_0 x41_2).f2))) (fun _ hk => hk.2) (.slice A365_3 ((rd_T64 l0_0 x41_2).f3).length c365_3)) (fun _ hk => trivial)⟩, ⟨by refine pl ?_; refine blk_far ?_ NB358_366.out _; refine pl ?_; refine blk_far ?_ NB358_366.out _; refine pl ?_; refine blk_far ?_ NB358_366.out _; refine pl ?_; refine blk_far ?_ NB358_366.out _; exact bx BK358.out⟩, ⟨by refine pl ?_; refine blk_put (cs := #[.int .i64 ((rd_T64 l0_0 x41_2).f0), .int .i64 ((rd_T64 l0_0 x41_2).f1), .string ((rd_T64 l0_0 x41_2).f2), .slice none 0 0]) ?_ 3 _ rfl; refine pl ?_; refine blk_put (cs := #[.int .i64 ((rd_T64 l0_0 x41_2).f0), .int .i64 ((rd_T64 l0_0 x41_2).f1), .string (⟨#[]⟩ : ByteArray), .slice none 0 0]) ?_ 2 _ rfl; refine pl ?_; refine blk_put (cs := #[.int .i64 ((rd_T64 l0_0 x41_2).f0), .int .i64 0, .string (⟨#[]⟩ : ByteArray), .slice none 0 0]) ?_ 1 _ rfl; refine pl ?_; refine blk_put (cs := #[.int .i64 0, .int .i64 0, .string (⟨#[]⟩ : ByteArray), .slice none 0 0]) ?_ 0 _ rfl; exact bx BK366.out⟩, ⟨be w⟩⟩
      case round =>
       clear H'
       (try clear c13); (try clear c14); (try clear c14b0); (try clear c14b1); (try clear c15); (try clear c15b0); (try clear c15b1); (try clear c19); (try clear c19b0); (try clear c20); (try clear c20b0); (try clear c21); (try clear c21b0); (try clear hcz18_0); (try clear hcz18_1); (try clear hcz24_0); (try clear hcz24_1); (try clear hcz24_2); (try clear hcz24_3); (try clear hcz4_0); (try clear hcz4_1); (try clear hfz18_0); (try clear hfz18_1); (try clear hfz24_0); (try clear hfz24_1); (try clear hfz24_2); (try clear hfz24_3); (try clear hfz4_0); (try clear hfz4_1); (try clear hx365_0); (try clear hx365_1); (try clear hx365_2); (try clear hx365_3); (try clear p365); (try clear q365)
       obtain ⟨x4_3, x48_3, rfl, HA, HK3, HO_4, BK358, BK366, HB⟩ := hrel
       cases gk with
       | zero => exact absurd HA.out (by simp [impl_ProgramOk.l1])
       | succ k3 =>
        have H := HA.out
        clear HA
        simp only [impl_ProgramOk.l1] at H
        by_cases c25 : x48_3 < (((rd_T64 l0_0 x41_2).f3).length : Int)
        rotate_left
        ·
         rw [if_neg c25] at H
         have c25b0 : decide (x48_3 < (((rd_T64 l0_0 x41_2).f3).length : Int)) = false := decide_eq_false c25
         clear c25
         have H' := As.mk H
         clear H
         go_wp2
         go_roundg k3
         case measure => have := HJ1.out; have := HK2.out; have := HK3.out; omega
         case rel => exact ⟨(x4_3), (wrap64 (x41_2 + 1)), (by first | rfl | (simp; done) | (simp [*]; done)), H', ⟨by have := HJ1.out; have := HK2.out; have := HK3.out; omega⟩, ⟨by (with_reducible repeat (first | apply Kd.R_alloc | apply Kd.R_drewN | apply Kd.R_drew)); exact HO_4.out⟩, ⟨bx BK358.out⟩, ⟨be w⟩⟩
        rw [if_pos c25] at H
        have c25b0 : decide (x48_3 < (((rd_T64 l0_0 x41_2).f3).length : Int)) = true := decide_eq_true c25
        clear c25
        by_cases c26 : 0 ≤ x48_3
        rotate_left
        ·
         rw [if_neg c26] at H
         exact absurd H (by simp)
        rw [if_pos c26] at H
        have c26b0 : decide (0 ≤ x48_3) = true := decide_eq_true c26
        clear c26
        by_cases c27 : x48_3 < (((rd_T64 l0_0 x41_2).f3).length : Int)
        rotate_left
        ·
         rw [if_neg c27] at H
         exact absurd H (by simp)
        rw [if_pos c27] at H
        have c27b0 : decide (x48_3 < (((rd_T64 l0_0 x41_2).f3).length : Int)) = true := decide_eq_true c27
        clear c27
        by_cases c28 : 0 ≤ (rd ((rd_T64 l0_0 x41_2).f3) x48_3)
        rotate_left
        ·
         rw [if_neg c28] at H
         exact absurd H (by simp)
        rw [if_pos c28] at H
        have c28b0 : decide (0 ≤ (rd ((rd_T64 l0_0 x41_2).f3) x48_3)) = true := decide_eq_true c28
        clear c28
        by_cases c29 : (rd ((rd_T64 l0_0 x41_2).f3) x48_3) < (x4_3.length : Int)
        rotate_left
        ·
         rw [if_neg c29] at H
         exact absurd H (by simp)
        rw [if_pos c29] at H
        have c29b0 : decide ((rd ((rd_T64 l0_0 x41_2).f3) x48_3) < (x4_3.length : Int)) = true := decide_eq_true c29
        clear c29
        obtain ⟨y369, hy369⟩ : ∃ y_ : List Int, y_ = (x4_3.set ((rd ((rd_T64 l0_0 x41_2).f3) x48_3) : Int).toNat (wrap64 ((rd x4_3 (rd ((rd_T64 l0_0 x41_2).f3) x48_3)) + 1))) := ⟨_, rfl⟩
        replace H : (impl_ProgramOk.l1 k3 y369 l0_0 (l0_0.length : Int) x41_2 ((rd_T64 l0_0 x41_2).f3) (((rd_T64 l0_0 x41_2).f3).length : Int) (wrap64 (x48_3 + 1)) l0_0 l0_1) = some r := by first | (rw [hy369]; with_reducible exact H) | (have H2_ := (Option.bind_some _ _).symm.trans H; rw [hy369]; with_reducible exact H2_) | (have H2_ := (Option.bind_some _ _).symm.trans H; with_reducible exact H2_) | with_reducible exact H | (rw [hy369]; exact H) | exact H
        have Ny369 := As.mk hy369
        clear hy369
        have H' := As.mk H
        clear H
        have p367 : 0 ≤ (x48_3 : Int) := of_decide_eq_true (by first | (with_reducible assumption) | assumption)
        have q367 : x48_3 < (((rd_T64 l0_0 x41_2).f3).length : Int) := of_decide_eq_true (by first | (with_reducible assumption) | assumption)
        obtain ⟨ad367, e367, hx367_0⟩ := Kd.at_int HR365_3.out x48_3 p367 q367
        cases e367
        replace hx367_0 := ce HB.out hx367_0
        replace p367 := eq_true p367
        replace q367 := eq_true q367
        obtain ⟨Ao31, co31, eo31⟩ := Kd.R_slice HO_4.out
        subst eo31
        have p368 : 0 ≤ ((rd ((rd_T64 l0_0 x41_2).f3) x48_3) : Int) := of_decide_eq_true (by first | (with_reducible assumption) | assumption)
        have q368 : (rd ((rd_T64 l0_0 x41_2).f3) x48_3) < (x4_3.length : Int) := of_decide_eq_true (by first | (with_reducible assumption) | assumption)
        obtain ⟨ad368, e368, hx368_0⟩ := Kd.at_int (Kd.R_reads' HO_4.out).2.2 (rd ((rd_T64 l0_0 x41_2).f3) x48_3) p368 q368
        cases e368
        replace p368 := eq_true p368
        replace q368 := eq_true q368
        have p30 : 0 ≤ ((rd ((rd_T64 l0_0 x41_2).f3) x48_3) : Int) := of_decide_eq_true (by first | (with_reducible assumption) | assumption)
        have q30 : ((rd ((rd_T64 l0_0 x41_2).f3) x48_3) : Int) < ((x4_3.length : Int) : Int) := of_decide_eq_true (by first | (with_reducible assumption) | assumption)
        obtain ⟨go30, co30, eo30, gb30, gl30, cl30, HG30⟩ := Kd.R_form HO_4.out (by omega)
        (first | cases eo30 | (injection eo30 with ea_ en_ ec_; (first | subst ea_ | (injection ea_ with ea_; subst ea_)); subst ec_; clear en_))
        have GB30 := As.mk gb30
        have GG30 := As.mk HG30
        clear gb30 gl30 HG30
        (first | simp only [add_plain] at hx368_0 | skip)
        obtain ⟨hx30_0, hf30_0⟩ := Kd.R_celln 0 HO_4.out ((rd ((rd_T64 l0_0 x41_2).f3) x48_3) : Int) p30 q30
        replace p30 := eq_true p30
        replace q30 := eq_true q30
        have HP32 := Kd.R_putg HO_4.out ((rd ((rd_T64 l0_0 x41_2).f3) x48_3) : Int) (wrap64 ((rd x4_3 (rd ((rd_T64 l0_0 x41_2).f3) x48_3)) + 1))
        go_wp2_with (first | ((with_reducible refine gate_store (t := 3) (p := 57) rfl ?_); refine store_event (t := 3) (p := 57) (v := ?vo_w33) (w1 := (wr.setCell ⟨go30, ((rd ((rd_T64 l0_0 x41_2).f3) x48_3) : Int).toNat, none⟩ (.int .i64 (wrap64 ((rd x4_3 (rd ((rd_T64 l0_0 x41_2).f3) x48_3)) + 1))))) ?hg ?ho ?hn ?hr ?_; (case ho => rfl); (case hg => rfl); (case hn => rfl); (case hr => first | (go_simp; done) | (go_simp; rfl)); intro w33 hw; have hg : wr.grownBy w33 (some go30) := (by rw [hw]; exact HP32.2); have hp_ : Kd.R (Kd.int .i64) 3 w33 w.heap.size (fun _ => True) (.slice (some ⟨go30, 0, none⟩) x4_3.length co31) y369 := (by rw [hw, Ny369.out]; exact HP32.1); clear HP32; replace BK358 := As.mk (blk_grown (g := gb358) (o := .cells #[.slice (some ad365) l0_0.length c0_0, .slice A0_1 l0_1.length c0_1] 52 (0, 0)) (bx BK358.out) hg (Kd.R_ne HO_4.out BK358.out (by decide))); replace BK366 := As.mk (blk_grown (g := gb366) (o := .cells #[.int .i64 ((rd_T64 l0_0 x41_2).f0), .int .i64 ((rd_T64 l0_0 x41_2).f1), .string ((rd_T64 l0_0 x41_2).f2), .slice (some ad367) ((rd_T64 l0_0 x41_2).f3).length c365_3] 64 (0, 0)) (bx BK366.out) hg (Kd.R_ne HO_4.out BK366.out (by decide))); replace HO_4 := As.mk (hp_); replace HB := As.mk ((by rw [hw]; exact below_set (HB.out) GB30.out : Below w.heap.size w w33)); clear hg hw hp_))
        go_roundg k3
        case measure => have := HJ1.out; have := HK2.out; have := HK3.out; omega
        case rel => exact ⟨(y369), (wrap64 (x48_3 + 1)), (by first | rfl | (simp; done) | (simp [*]; done)), H', ⟨by have := HJ1.out; have := HK2.out; have := HK3.out; omega⟩, ⟨by (with_reducible repeat (first | apply Kd.R_alloc | apply Kd.R_drewN | apply Kd.R_drew)); exact HO_4.out⟩, ⟨bx BK358.out⟩, ⟨bx BK366.out⟩, ⟨be w⟩⟩
     rw [if_neg c19] at H
     have c19b0 : decide (x41_2 < (l0_0.length : Int)) = false := decide_eq_false c19
     clear c19
     have H' := As.mk H
     clear H
     obtain ⟨hcz34_0, hcz34_1, hfz34_0, hfz34_1⟩ := cl2 BK358.out
     go_wp2
     go_loopg [63] k2 (fun kq v63 w' => ∃ (x4_3 : List Int) (x63_3 : Int), v63 = .int .i64 x63_3 ∧ As (impl_ProgramOk.l2 kq x4_3 l0_1 (l0_1.length : Int) x63_3 l0_0 l0_1 = some r) ∧ As (kq ≤ k2) ∧ As (Kd.R (Kd.int .i64) 3 w' w.heap.size (fun _ => True) v363 x4_3) ∧ As (w'.heap[gb358]? = some (.cells #[(.slice A0_0 l0_0.length c0_0), (.slice A0_1 l0_1.length c0_1)] 52 (0, 0))) ∧ As (Below w.heap.size w w'))
     case atStart => exact ⟨(x4_2), (0), (by first | rfl | (simp; done) | (simp [*]; done)), H', ⟨Nat.le_refl _⟩, ⟨by (with_reducible repeat (first | apply Kd.R_alloc | apply Kd.R_drewN | apply Kd.R_drew)); exact HO_4.out⟩, ⟨bx BK358.out⟩, ⟨be w⟩⟩
     case round =>
      clear H'
      (try clear c13); (try clear c14); (try clear c14b0); (try clear c14b1); (try clear c15); (try clear c15b0); (try clear c15b1); (try clear c19); (try clear c19b0); (try clear hcz18_0); (try clear hcz18_1); (try clear hcz34_0); (try clear hcz34_1); (try clear hcz4_0); (try clear hcz4_1); (try clear hfz18_0); (try clear hfz18_1); (try clear hfz34_0); (try clear hfz34_1); (try clear hfz4_0); (try clear hfz4_1)
      obtain ⟨x4_3, x63_3, rfl, HA, HK3, HO_4, BK358, HB⟩ := hrel
      cases gk with
      | zero => exact absurd HA.out (by simp [impl_ProgramOk.l2])
      | succ k3 =>
       have H := HA.out
       clear HA
       simp only [impl_ProgramOk.l2] at H
       by_cases c35 : x63_3 < (l0_1.length : Int)
       rotate_left
       ·
        rw [if_neg c35] at H
        have c35b0 : decide (x63_3 < (l0_1.length : Int)) = false := decide_eq_false c35
        clear c35
        have H' := As.mk H
        clear H
        obtain ⟨Ao74, co74, eo74⟩ := Kd.R_slice HO_4.out
        subst eo74
        go_wp2
        go_loopg [104] k3 (fun kq v104 w' => ∃ (x104_4 : Int), v104 = .int .i64 x104_4 ∧ As (impl_ProgramOk.l4 kq x4_3 (x4_3.length : Int) x104_4 = some r) ∧ As (kq ≤ k3) ∧ As (Kd.R (Kd.int .i64) 3 w' w.heap.size (fun _ => True) (.slice Ao74 x4_3.length co74) x4_3) ∧ As (w'.heap[gb358]? = some (.cells #[(.slice A0_0 l0_0.length c0_0), (.slice A0_1 l0_1.length c0_1)] 52 (0, 0))) ∧ As (Below w.heap.size w w'))
        case atStart => exact ⟨(0), (by first | rfl | (simp; done) | (simp [*]; done)), H', ⟨Nat.le_refl _⟩, ⟨by (with_reducible repeat (first | apply Kd.R_alloc | apply Kd.R_drewN | apply Kd.R_drew)); exact HO_4.out⟩, ⟨bx BK358.out⟩, ⟨be w⟩⟩
        case round =>
         clear H'
         (try clear c13); (try clear c14); (try clear c14b0); (try clear c14b1); (try clear c15); (try clear c15b0); (try clear c15b1); (try clear c19); (try clear c19b0); (try clear c35); (try clear c35b0); (try clear hcz18_0); (try clear hcz18_1); (try clear hcz34_0); (try clear hcz34_1); (try clear hcz4_0); (try clear hcz4_1); (try clear hfz18_0); (try clear hfz18_1); (try clear hfz34_0); (try clear hfz34_1); (try clear hfz4_0); (try clear hfz4_1)
         obtain ⟨x104_4, rfl, HA, HK4, HO_102, BK358, HB⟩ := hrel
         cases gk with
         | zero => exact absurd HA.out (by simp [impl_ProgramOk.l4])
         | succ k4 =>
          have H := HA.out
          clear HA
          simp only [impl_ProgramOk.l4] at H
          by_cases c75 : x104_4 < (x4_3.length : Int)
          rotate_left
          ·
           rw [if_neg c75] at H
           have c75b0 : decide (x104_4 < (x4_3.length : Int)) = false := decide_eq_false c75
           clear c75
           obtain rfl := Option.some.inj H
           go_wp2
           go_ret
           exact ⟨by first | rfl | (simp [errW_none, errW_some] <;> rfl) | (simp [*, errW_none, errW_some] <;> rfl), be w⟩
          rw [if_pos c75] at H
          have c75b0 : decide (x104_4 < (x4_3.length : Int)) = true := decide_eq_true c75
          clear c75
          by_cases c76 : 0 ≤ x104_4
          rotate_left
          ·
           rw [if_neg c76] at H
           exact absurd H (by simp)
          rw [if_pos c76] at H
          have c76b0 : decide (0 ≤ x104_4) = true := decide_eq_true c76
          clear c76
          by_cases c77 : x104_4 < (x4_3.length : Int)
          rotate_left
          ·
           rw [if_neg c77] at H
           exact absurd H (by simp)
          rw [if_pos c77] at H
          have c77b0 : decide (x104_4 < (x4_3.length : Int)) = true := decide_eq_true c77
          clear c77
          by_cases c78 : (rd x4_3 x104_4) = 1
          ·
           rw [if_pos c78] at H
           have c78b0 : ((rd x4_3 x104_4) == 1) = true := beq_iff_eq.mpr c78
           have c78b1 : ((rd x4_3 x104_4) != 1) = false := bne_eq_false_iff_eq.mpr c78
           clear c78
           have H' := As.mk H
           clear H
           have p380 : 0 ≤ (x104_4 : Int) := of_decide_eq_true (by first | (with_reducible assumption) | assumption)
           have q380 : x104_4 < (x4_3.length : Int) := of_decide_eq_true (by first | (with_reducible assumption) | assumption)
           obtain ⟨ad380, e380, hx380_0⟩ := Kd.at_int (Kd.R_reads' HO_102.out).2.2 x104_4 p380 q380
           cases e380
           replace p380 := eq_true p380
           replace q380 := eq_true q380
           go_wp2
           go_roundg k4
           case measure => have := HJ1.out; have := HK2.out; have := HK3.out; have := HK4.out; omega
           case rel => exact ⟨(wrap64 (x104_4 + 1)), (by first | rfl | (simp; done) | (simp [*]; done)), H', ⟨by have := HJ1.out; have := HK2.out; have := HK3.out; have := HK4.out; omega⟩, ⟨by (with_reducible repeat (first | apply Kd.R_alloc | apply Kd.R_drewN | apply Kd.R_drew)); exact HO_102.out⟩, ⟨bx BK358.out⟩, ⟨be w⟩⟩
          rw [if_neg c78] at H
          have c78b0 : ((rd x4_3 x104_4) == 1) = false := beq_eq_false_iff_ne.mpr c78
          have c78b1 : ((rd x4_3 x104_4) != 1) = true := bne_iff_ne.mpr c78
          by_cases c79 : (rd x4_3 x104_4) = (-1)
          rotate_left
          ·
           rw [if_neg c79] at H
           have c79b0 : ((rd x4_3 x104_4) == (-1)) = false := beq_eq_false_iff_ne.mpr c79
           have c79b1 : ((rd x4_3 x104_4) != (-1)) = true := bne_iff_ne.mpr c79
           obtain rfl := Option.some.inj H
           have p380 : 0 ≤ (x104_4 : Int) := of_decide_eq_true (by first | (with_reducible assumption) | assumption)
           have q380 : x104_4 < (x4_3.length : Int) := of_decide_eq_true (by first | (with_reducible assumption) | assumption)
           obtain ⟨ad380, e380, hx380_0⟩ := Kd.at_int (Kd.R_reads' HO_102.out).2.2 x104_4 p380 q380
           cases e380
           replace p380 := eq_true p380
           replace q380 := eq_true q380
           go_wp2
           go_ret
           exact ⟨by first | rfl | (simp [errW_none, errW_some] <;> rfl) | (simp [*, errW_none, errW_some] <;> rfl), be w⟩
          rw [if_pos c79] at H
          have c79b0 : ((rd x4_3 x104_4) == (-1)) = true := beq_iff_eq.mpr c79
          have c79b1 : ((rd x4_3 x104_4) != (-1)) = false := bne_eq_false_iff_eq.mpr c79
          clear c79
          have H' := As.mk H
          clear H
          have p380 : 0 ≤ (x104_4 : Int) := of_decide_eq_true (by first | (with_reducible assumption) | assumption)
          have q380 : x104_4 < (x4_3.length : Int) := of_decide_eq_true (by first | (with_reducible assumption) | assumption)
          obtain ⟨ad380, e380, hx380_0⟩ := Kd.at_int (Kd.R_reads' HO_102.out).2.2 x104_4 p380 q380
          cases e380
          replace p380 := eq_true p380
          replace q380 := eq_true q380
          go_wp2
          go_roundg k4
          case measure => have := HJ1.out; have := HK2.out; have := HK3.out; have := HK4.out; omega
          case rel => exact ⟨(wrap64 (x104_4 + 1)), (by first | rfl | (simp; done) | (simp [*]; done)), H', ⟨by have := HJ1.out; have := HK2.out; have := HK3.out; have := HK4.out; omega⟩, ⟨by (with_reducible repeat (first | apply Kd.R_alloc | apply Kd.R_drewN | apply Kd.R_drew)); exact HO_102.out⟩, ⟨bx BK358.out⟩, ⟨be w⟩⟩
       rw [if_pos c35] at H
       have c35b0 : decide (x63_3 < (l0_1.length : Int)) = true := decide_eq_true c35
       clear c35
       by_cases c36 : 0 ≤ x63_3
       rotate_left
       ·
        rw [if_neg c36] at H
        exact absurd H (by simp)
       rw [if_pos c36] at H
       have c36b0 : decide (0 ≤ x63_3) = true := decide_eq_true c36
       clear c36
       by_cases c37 : x63_3 < (l0_1.length : Int)
       rotate_left
       ·
        rw [if_neg c37] at H
        exact absurd H (by simp)
       rw [if_pos c37] at H
       have c37b0 : decide (x63_3 < (l0_1.length : Int)) = true := decide_eq_true c37
       clear c37
       have HC38 := As.mk H
       clear H
       have p370 : 0 ≤ (x63_3 : Int) := of_decide_eq_true (by first | (with_reducible assumption) | assumption)
       have q370 : x63_3 < (l0_1.length : Int) := of_decide_eq_true (by first | (with_reducible assumption) | assumption)
       obtain ⟨ad370, A370_1, c370_1, e370, hx370_0, hx370_1, hx370_2, hx370_3, hx370_4, hl370_1, hi370_1⟩ := at_T93 HR0_1.out x63_3 p370 q370
       cases e370
       replace hx370_0 := ce HB.out hx370_0
       replace hx370_1 := ce HB.out hx370_1
       replace hx370_2 := ce HB.out hx370_2
       replace hx370_3 := ce HB.out hx370_3
       replace hx370_4 := ce HB.out hx370_4
       have HR370_1 := As.mk hi370_1
       have HC370_1 := As.mk hl370_1
       clear hi370_1 hl370_1
       replace p370 := eq_true p370
       replace q370 := eq_true q370
       go_upto_region 17 with (first | ((with_reducible refine gate_dst (N := 10) rfl ?_); (try (refine gate_guard (by rfl) ?_; dsimp only)); refine box_event ?hg (N := 10) ?hd (cs := #[.string (⟨#[]⟩ : ByteArray), .slice none 0 0, .int .i64 0, .int .i64 0, .int .i64 0]) (t := 93) ?hr ?_; (case hd => rfl); (case hg => rfl); (case hr => first | (go_simp; done) | (go_simp; rfl)); intro gb371 hg w39 hbox hb; replace HO_4 := As.mk (Kd.R_below (by (with_reducible repeat (first | apply Kd.R_alloc | apply Kd.R_drewN | apply Kd.R_drew)); exact HO_4.out) hb); have BK371 := As.mk (hbox); have GW371 := As.mk (gs w hg); have GE371 := As.mk (gs w hg); replace HB := As.mk (below_step (be w) hb); have NB358_371 := As.mk (nl hg (bx BK358.out)); have NB371_358 := As.mk (ng hg (bx BK358.out)); replace BK358 := As.mk (blk_below (bx BK358.out) hb); clear hb hbox hg; have hnb40 := NB371_358.out; have hnc40 := NB358_371.out; obtain ⟨hcz41_0, hcz41_1, hcz41_2, hcz41_3, hcz41_4, hfz41_0, hfz41_1, hfz41_2, hfz41_3, hfz41_4⟩ := cl5 BK371.out))
       (try simp only [pk])
       go_cut [79] (fun v79 wc => ∃ (kq : Nat) (x79_37 : Bool), v79 = .bool x79_37 ∧ As (impl_ProgramOk.j4 kq x4_3 l0_1 (l0_1.length : Int) x63_3 x79_37 l0_0 l0_1 ((rd_T93 l0_1 x63_3).f0) ((rd_T93 l0_1 x63_3).f1) ((rd_T93 l0_1 x63_3).f2) ((rd_T93 l0_1 x63_3).f3) ((rd_T93 l0_1 x63_3).f4) = some r) ∧ As (kq ≤ k3) ∧ As (Kd.R (Kd.int .i64) 3 wc w.heap.size (fun _ => True) v363 x4_3) ∧ As (wc.heap[gb358]? = some (.cells #[(.slice A0_0 l0_0.length c0_0), (.slice (some ad370) l0_1.length c0_1)] 52 (0, 0))) ∧ As (wc.heap[gb371]? = some (.cells #[.string ((rd_T93 l0_1 x63_3).f0), (.slice A370_1 ((rd_T93 l0_1 x63_3).f1).length c370_1), .int .i64 ((rd_T93 l0_1 x63_3).f2), .int .i64 ((rd_T93 l0_1 x63_3).f3), .int .i64 ((rd_T93 l0_1 x63_3).f4)] 93 (0, 0))) ∧ As (Below w.heap.size w wc))
       case first =>
        have H := HC38.out
        clear HC38
        obtain ⟨t372, A420, H⟩ := Option.bind_eq_some_iff.mp H
        try dsimp only at H
        have A42 := As.mk A420
        clear A420
        by_cases c43 : t372 = true
        rotate_left
        ·
         replace c43 := Bool.eq_false_iff.mpr c43
         subst c43
         rw [if_neg (show ¬ (false = true) by decide)] at H
         have H' := As.mk H
         clear H
         have hnb52 := NB358_371.out
         have hnc52 := NB371_358.out
         obtain ⟨hcz53_0, hcz53_1, hfz53_0, hfz53_1⟩ := cl2 BK358.out
         obtain ⟨hcz54_0, hcz54_1, hcz54_2, hcz54_3, hcz54_4, hfz54_0, hfz54_1, hfz54_2, hfz54_3, hfz54_4⟩ := cl5 BK371.out
         go_wp2_with (first | ((with_reducible refine gate_callee (f := 75) rfl ?_); refine goesL_ (some 70) rfl rfl Tryd.func75 (by kernel_rfl) rfl #[.agg #[.slice A0_0 l0_0.length c0_0, .slice (some ad370) l0_1.length c0_1], .agg #[.string ((rd_T93 l0_1 x63_3).f0), .slice A370_1 ((rd_T93 l0_1 x63_3).f1).length c370_1, .int .i64 ((rd_T93 l0_1 x63_3).f2), .int .i64 ((rd_T93 l0_1 x63_3).f3), .int .i64 ((rd_T93 l0_1 x63_3).f4)]] rfl (by (try simp only [lm]); first | done | rfl | (simp only [List.length_drop, List.length_take]; rfl)) ?_; (with_reducible refine (impl_fnOk.calls k3 _ _ l0_0 _ _ l0_1 ((rd_T93 l0_1 x63_3).f0) _ _ ((rd_T93 l0_1 x63_3).f1) ((rd_T93 l0_1 x63_3).f2) ((rd_T93 l0_1 x63_3).f3) ((rd_T93 l0_1 x63_3).f4) false _ ?side1 ?side2 ?side3 ?side4 ?side5 ?side6 A42.out).mono ?_); (case side1 => exact Kd.C_below HR0_0.out (be w)); (case side2 => exact HC0_0.out); (case side3 => exact Kd.C_below HR0_1.out (be w)); (case side4 => exact HC0_1.out); (case side5 => exact Kd.C_below HR370_1.out (be w)); (case side6 => exact HC370_1.out); rintro e w55 ⟨rfl, hb⟩; refine ⟨_, rfl, ?_⟩; replace HO_4 := As.mk (Kd.R_below (by (with_reducible repeat (first | apply Kd.R_alloc | apply Kd.R_drewN | apply Kd.R_drew)); exact (Kd.R_mono (Kd.R_far (p := ⟨gb371, 4, none⟩) (Kd.R_far (p := ⟨gb371, 3, none⟩) (Kd.R_far (p := ⟨gb371, 2, none⟩) (Kd.R_far (p := ⟨gb371, 1, none⟩) (Kd.R_far (p := ⟨gb371, 0, none⟩) (Kd.R_types HO_4.out BK371.out (by decide)) (fun _ hk => hk.2) (.string ((rd_T93 l0_1 x63_3).f0))) (fun _ hk => hk.2) (.slice A370_1 ((rd_T93 l0_1 x63_3).f1).length c370_1)) (fun _ hk => hk.2) (.int .i64 ((rd_T93 l0_1 x63_3).f2))) (fun _ hk => hk.2) (.int .i64 ((rd_T93 l0_1 x63_3).f3))) (fun _ hk => hk.2) (.int .i64 ((rd_T93 l0_1 x63_3).f4))) (fun _ h_ => h_.1))) hb); replace BK358 := As.mk (blk_below (g := gb358) (o := .cells #[.slice A0_0 l0_0.length c0_0, .slice (some ad370) l0_1.length c0_1] 52 (0, 0)) (by refine pl ?_; refine blk_far ?_ NB358_371.out _; refine pl ?_; refine blk_far ?_ NB358_371.out _; refine pl ?_; refine blk_far ?_ NB358_371.out _; refine pl ?_; refine blk_far ?_ NB358_371.out _; refine pl ?_; refine blk_far ?_ NB358_371.out _; exact bx BK358.out) hb); replace BK371 := As.mk (blk_below (g := gb371) (o := .cells #[.string ((rd_T93 l0_1 x63_3).f0), .slice A370_1 ((rd_T93 l0_1 x63_3).f1).length c370_1, .int .i64 ((rd_T93 l0_1 x63_3).f2), .int .i64 ((rd_T93 l0_1 x63_3).f3), .int .i64 ((rd_T93 l0_1 x63_3).f4)] 93 (0, 0)) (by refine pl ?_; refine blk_put (cs := #[.string ((rd_T93 l0_1 x63_3).f0), .slice A370_1 ((rd_T93 l0_1 x63_3).f1).length c370_1, .int .i64 ((rd_T93 l0_1 x63_3).f2), .int .i64 ((rd_T93 l0_1 x63_3).f3), .int .i64 0]) ?_ 4 _ rfl; refine pl ?_; refine blk_put (cs := #[.string ((rd_T93 l0_1 x63_3).f0), .slice A370_1 ((rd_T93 l0_1 x63_3).f1).length c370_1, .int .i64 ((rd_T93 l0_1 x63_3).f2), .int .i64 0, .int .i64 0]) ?_ 3 _ rfl; refine pl ?_; refine blk_put (cs := #[.string ((rd_T93 l0_1 x63_3).f0), .slice A370_1 ((rd_T93 l0_1 x63_3).f1).length c370_1, .int .i64 0, .int .i64 0, .int .i64 0]) ?_ 2 _ rfl; refine pl ?_; refine blk_put (cs := #[.string ((rd_T93 l0_1 x63_3).f0), .slice none 0 0, .int .i64 0, .int .i64 0, .int .i64 0]) ?_ 1 _ rfl; refine pl ?_; refine blk_put (cs := #[.string (⟨#[]⟩ : ByteArray), .slice none 0 0, .int .i64 0, .int .i64 0, .int .i64 0]) ?_ 0 _ rfl; exact bx BK371.out) hb); replace HB := As.mk (below_step (be w) hb); (try clear hb); (try clear hb2); (try clear hk); (try clear hi)))
         go_meet
         case rel => exact ⟨_, (true), (by first | rfl | (simp; done) | (simp [*]; done)), H', ⟨by have := HJ1.out; have := HK2.out; have := HK3.out; first | omega | exact Nat.le_refl _⟩, ⟨by (with_reducible repeat (first | apply Kd.R_alloc | apply Kd.R_drewN | apply Kd.R_drew)); exact HO_4.out⟩, ⟨bx BK358.out⟩, ⟨bx BK371.out⟩, ⟨be w⟩⟩
        subst c43
        rw [if_pos rfl] at H
        obtain ⟨t373, A440, H⟩ := Option.bind_eq_some_iff.mp H
        try dsimp only at H
        have A44 := As.mk A440
        clear A440
        have H' := As.mk H
        clear H
        have hnb45 := NB358_371.out
        have hnc45 := NB371_358.out
        obtain ⟨hcz46_0, hcz46_1, hfz46_0, hfz46_1⟩ := cl2 BK358.out
        obtain ⟨hcz47_0, hcz47_1, hcz47_2, hcz47_3, hcz47_4, hfz47_0, hfz47_1, hfz47_2, hfz47_3, hfz47_4⟩ := cl5 BK371.out
        go_wp2_with (first | ((with_reducible refine gate_callee (f := 75) rfl ?_); refine goesL_ (some 70) rfl rfl Tryd.func75 (by kernel_rfl) rfl #[.agg #[.slice A0_0 l0_0.length c0_0, .slice (some ad370) l0_1.length c0_1], .agg #[.string ((rd_T93 l0_1 x63_3).f0), .slice A370_1 ((rd_T93 l0_1 x63_3).f1).length c370_1, .int .i64 ((rd_T93 l0_1 x63_3).f2), .int .i64 ((rd_T93 l0_1 x63_3).f3), .int .i64 ((rd_T93 l0_1 x63_3).f4)]] rfl (by (try simp only [lm]); first | done | rfl | (simp only [List.length_drop, List.length_take]; rfl)) ?_; (with_reducible refine (impl_fnOk.calls k3 _ _ l0_0 _ _ l0_1 ((rd_T93 l0_1 x63_3).f0) _ _ ((rd_T93 l0_1 x63_3).f1) ((rd_T93 l0_1 x63_3).f2) ((rd_T93 l0_1 x63_3).f3) ((rd_T93 l0_1 x63_3).f4) true _ ?side1 ?side2 ?side3 ?side4 ?side5 ?side6 A42.out).mono ?_); (case side1 => exact Kd.C_below HR0_0.out (be w)); (case side2 => exact HC0_0.out); (case side3 => exact Kd.C_below HR0_1.out (be w)); (case side4 => exact HC0_1.out); (case side5 => exact Kd.C_below HR370_1.out (be w)); (case side6 => exact HC370_1.out); rintro e w48 ⟨rfl, hb⟩; refine ⟨_, rfl, ?_⟩; replace HO_4 := As.mk (Kd.R_below (by (with_reducible repeat (first | apply Kd.R_alloc | apply Kd.R_drewN | apply Kd.R_drew)); exact (Kd.R_mono (Kd.R_far (p := ⟨gb371, 4, none⟩) (Kd.R_far (p := ⟨gb371, 3, none⟩) (Kd.R_far (p := ⟨gb371, 2, none⟩) (Kd.R_far (p := ⟨gb371, 1, none⟩) (Kd.R_far (p := ⟨gb371, 0, none⟩) (Kd.R_types HO_4.out BK371.out (by decide)) (fun _ hk => hk.2) (.string ((rd_T93 l0_1 x63_3).f0))) (fun _ hk => hk.2) (.slice A370_1 ((rd_T93 l0_1 x63_3).f1).length c370_1)) (fun _ hk => hk.2) (.int .i64 ((rd_T93 l0_1 x63_3).f2))) (fun _ hk => hk.2) (.int .i64 ((rd_T93 l0_1 x63_3).f3))) (fun _ hk => hk.2) (.int .i64 ((rd_T93 l0_1 x63_3).f4))) (fun _ h_ => h_.1))) hb); replace BK358 := As.mk (blk_below (g := gb358) (o := .cells #[.slice A0_0 l0_0.length c0_0, .slice (some ad370) l0_1.length c0_1] 52 (0, 0)) (by refine pl ?_; refine blk_far ?_ NB358_371.out _; refine pl ?_; refine blk_far ?_ NB358_371.out _; refine pl ?_; refine blk_far ?_ NB358_371.out _; refine pl ?_; refine blk_far ?_ NB358_371.out _; refine pl ?_; refine blk_far ?_ NB358_371.out _; exact bx BK358.out) hb); replace BK371 := As.mk (blk_below (g := gb371) (o := .cells #[.string ((rd_T93 l0_1 x63_3).f0), .slice A370_1 ((rd_T93 l0_1 x63_3).f1).length c370_1, .int .i64 ((rd_T93 l0_1 x63_3).f2), .int .i64 ((rd_T93 l0_1 x63_3).f3), .int .i64 ((rd_T93 l0_1 x63_3).f4)] 93 (0, 0)) (by refine pl ?_; refine blk_put (cs := #[.string ((rd_T93 l0_1 x63_3).f0), .slice A370_1 ((rd_T93 l0_1 x63_3).f1).length c370_1, .int .i64 ((rd_T93 l0_1 x63_3).f2), .int .i64 ((rd_T93 l0_1 x63_3).f3), .int .i64 0]) ?_ 4 _ rfl; refine pl ?_; refine blk_put (cs := #[.string ((rd_T93 l0_1 x63_3).f0), .slice A370_1 ((rd_T93 l0_1 x63_3).f1).length c370_1, .int .i64 ((rd_T93 l0_1 x63_3).f2), .int .i64 0, .int .i64 0]) ?_ 3 _ rfl; refine pl ?_; refine blk_put (cs := #[.string ((rd_T93 l0_1 x63_3).f0), .slice A370_1 ((rd_T93 l0_1 x63_3).f1).length c370_1, .int .i64 0, .int .i64 0, .int .i64 0]) ?_ 2 _ rfl; refine pl ?_; refine blk_put (cs := #[.string ((rd_T93 l0_1 x63_3).f0), .slice none 0 0, .int .i64 0, .int .i64 0, .int .i64 0]) ?_ 1 _ rfl; refine pl ?_; refine blk_put (cs := #[.string (⟨#[]⟩ : ByteArray), .slice none 0 0, .int .i64 0, .int .i64 0, .int .i64 0]) ?_ 0 _ rfl; exact bx BK371.out) hb); replace HB := As.mk (below_step (be w) hb); (try clear hb); (try clear hb2); (try clear hk); (try clear hi); obtain ⟨hcz49_0, hcz49_1, hfz49_0, hfz49_1⟩ := cl2 BK358.out; obtain ⟨hcz50_0, hcz50_1, hcz50_2, hcz50_3, hcz50_4, hfz50_0, hfz50_1, hfz50_2, hfz50_3, hfz50_4⟩ := cl5 BK371.out) | (go_at_call 76; (with_reducible refine (impl_FnAt.calls k3 _ _ l0_0 _ _ l0_1 ((rd_T93 l0_1 x63_3).f0) t373 _ ?side1 ?side2 ?side3 ?side4 A44.out).mono ?_); (case side1 => exact Kd.C_below HR0_0.out (be w)); (case side2 => exact HC0_0.out); (case side3 => exact Kd.C_below HR0_1.out (be w)); (case side4 => exact HC0_1.out); rintro e w51 ⟨rfl, hb⟩; replace HO_4 := As.mk (Kd.R_below (by (with_reducible repeat (first | apply Kd.R_alloc | apply Kd.R_drewN | apply Kd.R_drew)); exact HO_4.out) hb); replace BK358 := As.mk (blk_below (bx BK358.out) hb); replace BK371 := As.mk (blk_below (bx BK371.out) hb); replace HB := As.mk (below_step (be w) hb); (try clear hb); (try clear hb2); (try clear hk); (try clear hi)))
        go_meet
        case rel => exact ⟨_, ((t373 != x63_3)), (by first | rfl | (simp; done) | (simp [*]; done)), H', ⟨by have := HJ1.out; have := HK2.out; have := HK3.out; first | omega | exact Nat.le_refl _⟩, ⟨by (with_reducible repeat (first | apply Kd.R_alloc | apply Kd.R_drewN | apply Kd.R_drew)); exact HO_4.out⟩, ⟨bx BK358.out⟩, ⟨bx BK371.out⟩, ⟨be w⟩⟩
       case rest =>
        clear HC38
        (try clear c13); (try clear c14); (try clear c14b0); (try clear c14b1); (try clear c15); (try clear c15b0); (try clear c15b1); (try clear c19); (try clear c19b0); (try clear c35); (try clear c35b0); (try clear c36); (try clear c36b0); (try clear c37); (try clear c37b0); (try clear hcz18_0); (try clear hcz18_1); (try clear hcz34_0); (try clear hcz34_1); (try clear hcz41_0); (try clear hcz41_1); (try clear hcz41_2); (try clear hcz41_3); (try clear hcz41_4); (try clear hcz4_0); (try clear hcz4_1); (try clear hfz18_0); (try clear hfz18_1); (try clear hfz34_0); (try clear hfz34_1); (try clear hfz41_0); (try clear hfz41_1); (try clear hfz41_2); (try clear hfz41_3); (try clear hfz41_4); (try clear hfz4_0); (try clear hfz4_1); (try clear hx370_0); (try clear hx370_1); (try clear hx370_2); (try clear hx370_3); (try clear hx370_4); (try clear p370); (try clear q370)
        obtain ⟨kq, x79_37, rfl, HA, HJ37, HO_4, BK358, BK371, HB⟩ := hcut
        cases kq with
        | zero => exact absurd HA.out (by simp [impl_ProgramOk.j4])
        | succ kj37 =>
         have H := HA.out
         clear HA
         simp only [impl_ProgramOk.j4] at H
         by_cases c56 : x79_37 = true
         ·
          subst c56
          rw [if_pos rfl] at H
          obtain rfl := Option.some.inj H
          go_wp2
          go_ret
          exact ⟨by first | rfl | (simp [errW_none, errW_some] <;> rfl) | (simp [*, errW_none, errW_some] <;> rfl), be w⟩
         replace c56 := Bool.eq_false_iff.mpr c56
         subst c56
         rw [if_neg (show ¬ (false = true) by decide)] at H
         obtain ⟨y374, hy374⟩ : ∃ y_ : List Int, y_ = (([((rd_T93 l0_1 x63_3).f3), ((rd_T93 l0_1 x63_3).f4)] : List Int)) := ⟨_, rfl⟩
         replace H : (impl_ProgramOk.l3 kj37 x4_3 l0_1 (l0_1.length : Int) x63_3 y374 (y374.length : Int) 0 l0_0 l0_1) = some r := by first | (rw [hy374]; with_reducible exact H) | (have H2_ := (Option.bind_some _ _).symm.trans H; rw [hy374]; with_reducible exact H2_) | (have H2_ := (Option.bind_some _ _).symm.trans H; with_reducible exact H2_) | with_reducible exact H | (rw [hy374]; exact H) | exact H
         have Ny374 := As.mk hy374
         clear hy374
         have H' := As.mk H
         clear H
         have hnb57 := NB371_358.out
         have hnc57 := NB358_371.out
         obtain ⟨hcz58_0, hcz58_1, hcz58_2, hcz58_3, hcz58_4, hfz58_0, hfz58_1, hfz58_2, hfz58_3, hfz58_4⟩ := cl5 BK371.out
         go_wp2_with (first | ((with_reducible refine gate_dst (N := 84) rfl ?_); (try (refine gate_guard (by rfl) ?_; dsimp only)); refine Kd.R_lit (Kd.int .i64) _ 3 ?hg (N := 84) ?hd (xs := ([((rd_T93 l0_1 x63_3).f3), ((rd_T93 l0_1 x63_3).f4)] : List Int)) (inner := [.int .i64 ((rd_T93 l0_1 x63_3).f3), .int .i64 ((rd_T93 l0_1 x63_3).f4)]) (ok := fun _ => True) (okp := fun _ => True) ?hr ?hp (fun _ hk => hk) trivial (Below.refl _ _) (Nat.le_refl _) (by simp) ?_; (case hd => rfl); (case hg => rfl); (case hr => first | (go_simp; done) | (go_simp; rfl)); (case hp => exact (Reps.one (show Kd.M (Kd.int .i64) _ _ _ ((rd_T93 l0_1 x63_3).f3) [.int .i64 ((rd_T93 l0_1 x63_3).f3)] from rfl) (Reps.one (show Kd.M (Kd.int .i64) _ _ _ ((rd_T93 l0_1 x63_3).f4) [.int .i64 ((rd_T93 l0_1 x63_3).f4)] from rfl) (Reps.none _ _)))); intro v375 w59 ho60 hb hg_ hnew_; clear hg_ hnew_; (first | rw [← Ny374.out] at ho60 | (simp only [Int.reduceToNat] at ho60; rw [← Ny374.out] at ho60)); have HO376 := As.mk (Kd.R_lower (Kd.R_new' ho60 (Kd.R_lt (by (with_reducible repeat (first | apply Kd.R_alloc | apply Kd.R_drewN | apply Kd.R_drew)); exact HO_4.out))) (below_size (be w))); replace HO_4 := As.mk (Kd.R_elder' (by (with_reducible repeat (first | apply Kd.R_alloc | apply Kd.R_drewN | apply Kd.R_drew)); exact HO_4.out) (Kd.R_base ho60) hb); replace BK358 := As.mk (blk_below (bx BK358.out) hb); replace BK371 := As.mk (blk_below (bx BK371.out) hb); replace HB := As.mk (below_step (be w) hb); clear hb ho60; obtain ⟨Ao61, co61, eo61⟩ := Kd.R_slice HO376.out; subst eo61))
         go_loopg [86] kj37 (fun kq v86 w' => ∃ (x4_5 : List Int) (x86_5 : Int), v86 = .int .i64 x86_5 ∧ As (impl_ProgramOk.l3 kq x4_5 l0_1 (l0_1.length : Int) x63_3 y374 (y374.length : Int) x86_5 l0_0 l0_1 = some r) ∧ As (kq ≤ kj37) ∧ As (Kd.R (Kd.int .i64) 3 w' w.heap.size (fun k_ => some k_ ≠ ((.slice Ao61 y374.length co61) : Value).ownBlock) v363 x4_5) ∧ As (Kd.R (Kd.int .i64) 3 w' w.heap.size (fun k_ => some k_ ≠ (v363 : Value).ownBlock) (.slice Ao61 y374.length co61) y374) ∧ As (w'.heap[gb358]? = some (.cells #[(.slice A0_0 l0_0.length c0_0), (.slice (some ad370) l0_1.length c0_1)] 52 (0, 0))) ∧ As (w'.heap[gb371]? = some (.cells #[.string ((rd_T93 l0_1 x63_3).f0), (.slice A370_1 ((rd_T93 l0_1 x63_3).f1).length c370_1), .int .i64 ((rd_T93 l0_1 x63_3).f2), .int .i64 ((rd_T93 l0_1 x63_3).f3), .int .i64 ((rd_T93 l0_1 x63_3).f4)] 93 (0, 0))) ∧ As (Below w.heap.size w w'))
         case atStart => exact ⟨(x4_3), (0), (by first | rfl | (simp; done) | (simp [*]; done)), H', ⟨Nat.le_refl _⟩, ⟨by (with_reducible repeat (first | apply Kd.R_alloc | apply Kd.R_drewN | apply Kd.R_drew)); exact Kd.R_mono HO_4.out (fun _ hk => hk.2)⟩, ⟨by (with_reducible repeat (first | apply Kd.R_alloc | apply Kd.R_drewN | apply Kd.R_drew)); exact Kd.R_mono HO376.out (fun _ hk => hk.2)⟩, ⟨bx BK358.out⟩, ⟨bx BK371.out⟩, ⟨be w⟩⟩
         case round =>
          clear H'
          (try clear c13); (try clear c14); (try clear c14b0); (try clear c14b1); (try clear c15); (try clear c15b0); (try clear c15b1); (try clear c19); (try clear c19b0); (try clear c35); (try clear c35b0); (try clear c36); (try clear c36b0); (try clear c37); (try clear c37b0); (try clear c56); (try clear hcz18_0); (try clear hcz18_1); (try clear hcz34_0); (try clear hcz34_1); (try clear hcz41_0); (try clear hcz41_1); (try clear hcz41_2); (try clear hcz41_3); (try clear hcz41_4); (try clear hcz4_0); (try clear hcz4_1); (try clear hcz58_0); (try clear hcz58_1); (try clear hcz58_2); (try clear hcz58_3); (try clear hcz58_4); (try clear hfz18_0); (try clear hfz18_1); (try clear hfz34_0); (try clear hfz34_1); (try clear hfz41_0); (try clear hfz41_1); (try clear hfz41_2); (try clear hfz41_3); (try clear hfz41_4); (try clear hfz4_0); (try clear hfz4_1); (try clear hfz58_0); (try clear hfz58_1); (try clear hfz58_2); (try clear hfz58_3); (try clear hfz58_4); (try clear hx370_0); (try clear hx370_1); (try clear hx370_2); (try clear hx370_3); (try clear hx370_4); (try clear p370); (try clear q370)
          obtain ⟨x4_5, x86_5, rfl, HA, HK5, HO_4, HO_84, BK358, BK371, HB⟩ := hrel
          cases gk with
          | zero => exact absurd HA.out (by simp [impl_ProgramOk.l3])
          | succ k5 =>
           have H := HA.out
           clear HA
           simp only [impl_ProgramOk.l3] at H
           by_cases c62 : x86_5 < (y374.length : Int)
           rotate_left
           ·
            rw [if_neg c62] at H
            have c62b0 : decide (x86_5 < (y374.length : Int)) = false := decide_eq_false c62
            clear c62
            have H' := As.mk H
            clear H
            go_wp2
            go_roundg k5
            case measure => have := HJ1.out; have := HK2.out; have := HK3.out; have := HJ37.out; have := HK5.out; omega
            case rel => exact ⟨(x4_5), (wrap64 (x63_3 + 1)), (by first | rfl | (simp; done) | (simp [*]; done)), H', ⟨by have := HJ1.out; have := HK2.out; have := HK3.out; have := HJ37.out; have := HK5.out; omega⟩, ⟨by (with_reducible repeat (first | apply Kd.R_alloc | apply Kd.R_drewN | apply Kd.R_drew)); exact Kd.R_mono HO_4.out (fun _ hk => trivial)⟩, ⟨bx BK358.out⟩, ⟨be w⟩⟩
           rw [if_pos c62] at H
           have c62b0 : decide (x86_5 < (y374.length : Int)) = true := decide_eq_true c62
           clear c62
           by_cases c63 : 0 ≤ x86_5
           rotate_left
           ·
            rw [if_neg c63] at H
            exact absurd H (by simp)
           rw [if_pos c63] at H
           have c63b0 : decide (0 ≤ x86_5) = true := decide_eq_true c63
           clear c63
           by_cases c64 : x86_5 < (y374.length : Int)
           rotate_left
           ·
            rw [if_neg c64] at H
            exact absurd H (by simp)
           rw [if_pos c64] at H
           have c64b0 : decide (x86_5 < (y374.length : Int)) = true := decide_eq_true c64
           clear c64
           by_cases c65 : (rd y374 x86_5) < 0
           ·
            rw [if_pos c65] at H
            have c65b0 : decide ((rd y374 x86_5) < 0) = true := decide_eq_true c65
            clear c65
            have H' := As.mk H
            clear H
            have p377 : 0 ≤ (x86_5 : Int) := of_decide_eq_true (by first | (with_reducible assumption) | assumption)
            have q377 : x86_5 < (y374.length : Int) := of_decide_eq_true (by first | (with_reducible assumption) | assumption)
            obtain ⟨ad377, e377, hx377_0⟩ := Kd.at_int (Kd.R_reads' HO_84.out).2.2 x86_5 p377 q377
            cases e377
            replace p377 := eq_true p377
            replace q377 := eq_true q377
            go_wp2
            go_roundg k5
            case measure => have := HJ1.out; have := HK2.out; have := HK3.out; have := HJ37.out; have := HK5.out; omega
            case rel => exact ⟨(x4_5), (wrap64 (x86_5 + 1)), (by first | rfl | (simp; done) | (simp [*]; done)), H', ⟨by have := HJ1.out; have := HK2.out; have := HK3.out; have := HJ37.out; have := HK5.out; omega⟩, ⟨by (with_reducible repeat (first | apply Kd.R_alloc | apply Kd.R_drewN | apply Kd.R_drew)); exact HO_4.out⟩, ⟨by (with_reducible repeat (first | apply Kd.R_alloc | apply Kd.R_drewN | apply Kd.R_drew)); exact HO_84.out⟩, ⟨bx BK358.out⟩, ⟨bx BK371.out⟩, ⟨be w⟩⟩
           rw [if_neg c65] at H
           have c65b0 : decide ((rd y374 x86_5) < 0) = false := decide_eq_false c65
           clear c65
           by_cases c66 : 0 ≤ (rd y374 x86_5)
           rotate_left
           ·
            rw [if_neg c66] at H
            exact absurd H (by simp)
           rw [if_pos c66] at H
           have c66b0 : decide (0 ≤ (rd y374 x86_5)) = true := decide_eq_true c66
           clear c66
           by_cases c67 : (rd y374 x86_5) < (x4_5.length : Int)
           rotate_left
           ·
            rw [if_neg c67] at H
            exact absurd H (by simp)
           rw [if_pos c67] at H
           have c67b0 : decide ((rd y374 x86_5) < (x4_5.length : Int)) = true := decide_eq_true c67
           clear c67
           by_cases c68 : (rd x4_5 (rd y374 x86_5)) = 0
           rotate_left
           ·
            rw [if_neg c68] at H
            have c68b0 : ((rd x4_5 (rd y374 x86_5)) == 0) = false := beq_eq_false_iff_ne.mpr c68
            have c68b1 : ((rd x4_5 (rd y374 x86_5)) != 0) = true := bne_iff_ne.mpr c68
            obtain rfl := Option.some.inj H
            have p377 : 0 ≤ (x86_5 : Int) := of_decide_eq_true (by first | (with_reducible assumption) | assumption)
            have q377 : x86_5 < (y374.length : Int) := of_decide_eq_true (by first | (with_reducible assumption) | assumption)
            obtain ⟨ad377, e377, hx377_0⟩ := Kd.at_int (Kd.R_reads' HO_84.out).2.2 x86_5 p377 q377
            cases e377
            replace p377 := eq_true p377
            replace q377 := eq_true q377
            obtain ⟨Ao73, co73, eo73⟩ := Kd.R_slice HO_4.out
            subst eo73
            have p378 : 0 ≤ ((rd y374 x86_5) : Int) := of_decide_eq_true (by first | (with_reducible assumption) | assumption)
            have q378 : (rd y374 x86_5) < (x4_5.length : Int) := of_decide_eq_true (by first | (with_reducible assumption) | assumption)
            obtain ⟨ad378, e378, hx378_0⟩ := Kd.at_int (Kd.R_reads' HO_4.out).2.2 (rd y374 x86_5) p378 q378
            cases e378
            replace p378 := eq_true p378
            replace q378 := eq_true q378
            go_wp2
            go_ret
            exact ⟨by first | rfl | (simp [errW_none, errW_some] <;> rfl) | (simp [*, errW_none, errW_some] <;> rfl), be w⟩
           rw [if_pos c68] at H
           have c68b0 : ((rd x4_5 (rd y374 x86_5)) == 0) = true := beq_iff_eq.mpr c68
           have c68b1 : ((rd x4_5 (rd y374 x86_5)) != 0) = false := bne_eq_false_iff_eq.mpr c68
           clear c68
           obtain ⟨y379, hy379⟩ : ∃ y_ : List Int, y_ = (x4_5.set ((rd y374 x86_5) : Int).toNat (-1)) := ⟨_, rfl⟩
           replace H : (impl_ProgramOk.l3 k5 y379 l0_1 (l0_1.length : Int) x63_3 y374 (y374.length : Int) (wrap64 (x86_5 + 1)) l0_0 l0_1) = some r := by first | (rw [hy379]; with_reducible exact H) | (have H2_ := (Option.bind_some _ _).symm.trans H; rw [hy379]; with_reducible exact H2_) | (have H2_ := (Option.bind_some _ _).symm.trans H; with_reducible exact H2_) | with_reducible exact H | (rw [hy379]; exact H) | exact H
           have Ny379 := As.mk hy379
           clear hy379
           have H' := As.mk H
           clear H
           have p377 : 0 ≤ (x86_5 : Int) := of_decide_eq_true (by first | (with_reducible assumption) | assumption)
           have q377 : x86_5 < (y374.length : Int) := of_decide_eq_true (by first | (with_reducible assumption) | assumption)
           obtain ⟨ad377, e377, hx377_0⟩ := Kd.at_int (Kd.R_reads' HO_84.out).2.2 x86_5 p377 q377
           cases e377
           replace p377 := eq_true p377
           replace q377 := eq_true q377
           obtain ⟨Ao70, co70, eo70⟩ := Kd.R_slice HO_4.out
           subst eo70
           have p378 : 0 ≤ ((rd y374 x86_5) : Int) := of_decide_eq_true (by first | (with_reducible assumption) | assumption)
           have q378 : (rd y374 x86_5) < (x4_5.length : Int) := of_decide_eq_true (by first | (with_reducible assumption) | assumption)
           obtain ⟨ad378, e378, hx378_0⟩ := Kd.at_int (Kd.R_reads' HO_4.out).2.2 (rd y374 x86_5) p378 q378
           cases e378
           replace p378 := eq_true p378
           replace q378 := eq_true q378
           have p69 : 0 ≤ ((rd y374 x86_5) : Int) := of_decide_eq_true (by first | (with_reducible assumption) | assumption)
           have q69 : ((rd y374 x86_5) : Int) < ((x4_5.length : Int) : Int) := of_decide_eq_true (by first | (with_reducible assumption) | assumption)
           obtain ⟨go69, co69, eo69, gb69, gl69, cl69, HG69⟩ := Kd.R_form HO_4.out (by omega)
           (first | cases eo69 | (injection eo69 with ea_ en_ ec_; (first | subst ea_ | (injection ea_ with ea_; subst ea_)); subst ec_; clear en_))
           have GB69 := As.mk gb69
           have GG69 := As.mk HG69
           clear gb69 gl69 HG69
           (first | simp only [add_plain] at hx378_0 | skip)
           obtain ⟨hx69_0, hf69_0⟩ := Kd.R_celln 0 HO_4.out ((rd y374 x86_5) : Int) p69 q69
           replace p69 := eq_true p69
           replace q69 := eq_true q69
           have HP71 := Kd.R_putg HO_4.out ((rd y374 x86_5) : Int) (-1)
           go_wp2_with (first | ((with_reducible refine gate_store (t := 3) (p := 99) rfl ?_); refine store_event (t := 3) (p := 99) (v := ?vo_w72) (w1 := (wr.setCell ⟨go69, ((rd y374 x86_5) : Int).toNat, none⟩ (.int .i64 (-1)))) ?hg ?ho ?hn ?hr ?_; (case ho => rfl); (case hg => rfl); (case hn => rfl); (case hr => first | (go_simp; done) | (go_simp; rfl)); intro w72 hw; have hg : wr.grownBy w72 (some go69) := (by rw [hw]; exact HP71.2); have hp_ : Kd.R (Kd.int .i64) 3 w72 w.heap.size (fun k_ => some k_ ≠ (.slice (some ad377) y374.length co61 : Value).ownBlock) (.slice (some ⟨go69, 0, none⟩) x4_5.length co70) y379 := (by rw [hw, Ny379.out]; exact HP71.1); clear HP71; replace HO_84 := As.mk (Kd.R_after (v := (.slice (some ⟨go69, 0, none⟩) x4_5.length co70)) (v1 := (.slice (some ⟨go69, 0, none⟩) x4_5.length co70)) (ok := (fun _ => True)) (by (with_reducible repeat (first | apply Kd.R_alloc | apply Kd.R_drewN | apply Kd.R_drew)); exact Kd.R_mono HO_84.out (fun _ hk => ⟨trivial, hk⟩)) hg (.inl rfl)); replace BK358 := As.mk (blk_grown (g := gb358) (o := .cells #[.slice A0_0 l0_0.length c0_0, .slice (some ad370) l0_1.length c0_1] 52 (0, 0)) (bx BK358.out) hg (Kd.R_ne HO_4.out BK358.out (by decide))); replace BK371 := As.mk (blk_grown (g := gb371) (o := .cells #[.string ((rd_T93 l0_1 x63_3).f0), .slice A370_1 ((rd_T93 l0_1 x63_3).f1).length c370_1, .int .i64 ((rd_T93 l0_1 x63_3).f2), .int .i64 ((rd_T93 l0_1 x63_3).f3), .int .i64 ((rd_T93 l0_1 x63_3).f4)] 93 (0, 0)) (bx BK371.out) hg (Kd.R_ne HO_4.out BK371.out (by decide))); replace HO_4 := As.mk (hp_); replace HB := As.mk ((by rw [hw]; exact below_set (HB.out) GB69.out : Below w.heap.size w w72)); clear hg hw hp_))
           go_roundg k5
           case measure => have := HJ1.out; have := HK2.out; have := HK3.out; have := HJ37.out; have := HK5.out; omega
           case rel => exact ⟨(y379), (wrap64 (x86_5 + 1)), (by first | rfl | (simp; done) | (simp [*]; done)), H', ⟨by have := HJ1.out; have := HK2.out; have := HK3.out; have := HJ37.out; have := HK5.out; omega⟩, ⟨by (with_reducible repeat (first | apply Kd.R_alloc | apply Kd.R_drewN | apply Kd.R_drew)); exact HO_4.out⟩, ⟨by (with_reducible repeat (first | apply Kd.R_alloc | apply Kd.R_drewN | apply Kd.R_drew)); exact Kd.R_mono HO_84.out (fun _ hk => hk.2)⟩, ⟨bx BK358.out⟩, ⟨bx BK371.out⟩, ⟨be w⟩⟩
/-! ### laws_FnExactProgramOk: function 9 -/
def laws_FnExactProgramOk.f (k : Nat) (l0_0 : List (S62)) (l0_1 : List (S114)) : Option (Bool) := (laws_szProgram.f k l0_0 l0_1 1048576).bind fun t382 => (if t382 < 0 then (some true) else ((laws_toProgram.f k l0_0 l0_1).bind fun bt383 => ((spec_ProgramOk.f k bt383.1 bt383.2).bind fun t389 => ((laws_toProgram.f k l0_0 l0_1).bind fun bt390 => ((impl_ProgramOk.f k bt390.1 bt390.2).bind fun t397 => (if (t397 != t389) = true then (some false) else ((laws_toProgram.f k l0_0 l0_1).bind fun bt398 => ((laws_eqProgram.f k bt390.1 bt390.2 bt398.1 bt398.2).bind fun t404 => (if t404 = true then (some true) else (some false))))))))))
theorem laws_FnExactProgramOk.mono : ∀ a0 a1 k, LeO (laws_FnExactProgramOk.f k a0 a1) (laws_FnExactProgramOk.f (k + 1) a0 a1) := by
 intro a0 a1 k
 unfold laws_FnExactProgramOk.f
 with_reducible repeat' first | exact impl_ProgramOk.mono _ _ _ | exact laws_eqProgram.mono _ _ _ _ _ | exact laws_szProgram.mono _ _ _ _ | exact laws_toProgram.mono _ _ _ | exact spec_ProgramOk.mono _ _ _ | exact LeO.refl _ | exact LeO.none _ | refine LeO.ite ?_ ?_ | refine LeO.bind ?_ (fun _ => ?_)
set_option maxHeartbeats 8000000 in
set_option maxRecDepth 100000 in
theorem laws_FnExactProgramOk.calls (k : Nat) (A0_0 : Option Addr) (c0_0 : Nat) (l0_0 : List (S62)) (A0_1 : Option Addr) (c0_1 : Nat) (l0_1 : List (S114)) (r : Bool) (w : World) (hr0_0 : Kd.C k62 w A0_0 l0_0.length l0_0) (hc0_0 : l0_0.length ≤ c0_0) (hr0_1 : Kd.C k114 w A0_1 l0_1.length l0_1) (hc0_1 : l0_1.length ≤ c0_1) (hrt : As (r = true)) (h : laws_FnExactProgramOk.f k l0_0 l0_1 = some r) :
  Calls Tryd.prog 9 #[.agg #[.slice A0_0 l0_0.length c0_0, .slice A0_1 l0_1.length c0_1]] w fun e w' => e = .returned (.bool r) ∧ Below w.heap.size w w' := by
 have hu47 := Tryd.underlying47
 have hu52 := Tryd.underlying52
 have HR0_0 := As.mk hr0_0
 have HC0_0 := As.mk hc0_0
 clear hr0_0 hc0_0
 have HR0_1 := As.mk hr0_1
 have HC0_1 := As.mk hc0_1
 clear hr0_1 hc0_1
 have HB := As.mk (Below.refl w.heap.size w)
 have H : ((laws_szProgram.f k l0_0 l0_1 1048576).bind fun t382 => (if t382 < 0 then (some true) else ((laws_toProgram.f k l0_0 l0_1).bind fun bt383 => ((spec_ProgramOk.f k bt383.1 bt383.2).bind fun t389 => ((laws_toProgram.f k l0_0 l0_1).bind fun bt390 => ((impl_ProgramOk.f k bt390.1 bt390.2).bind fun t397 => (if (t397 != t389) = true then (some false) else ((laws_toProgram.f k l0_0 l0_1).bind fun bt398 => ((laws_eqProgram.f k bt390.1 bt390.2 bt398.1 bt398.2).bind fun t404 => (if t404 = true then (some true) else (some false))))))))))) = some r := h
 clear h
 obtain ⟨t382, A20, H⟩ := Option.bind_eq_some_iff.mp H
 try dsimp only at H
 have A2 := As.mk A20
 clear A20
 by_cases c3 : t382 < 0
 ·
  rw [if_pos c3] at H
  have c3b0 : decide (t382 < 0) = true := decide_eq_true c3
  clear c3
  obtain rfl := Option.some.inj H
  go_enter Tryd.func9, Tryd.ntmps9
  go_wp2_with (first | ((with_reducible refine gate_dst (N := 1) rfl ?_); refine box_event ?hg (N := 1) ?hd (cs := #[.slice A0_0 l0_0.length c0_0, .slice A0_1 l0_1.length c0_1]) (t := 47) ?hr ?_; (case hd => rfl); (case hg => rfl); (case hr => first | (go_simp; done) | (go_simp; rfl)); intro gb381 hg w4 hbox hb; have BK381 := As.mk (hbox); have GW381 := As.mk (gs w hg); have GE381 := As.mk (gs w hg); replace HB := As.mk (below_step (be w) hb); clear hb hbox hg; obtain ⟨hcz5_0, hcz5_1, hfz5_0, hfz5_1⟩ := cl2 BK381.out) | ((with_reducible refine gate_callee (f := 29) rfl ?_); refine goesL_ (some 9) rfl rfl Tryd.func29 (by kernel_rfl) rfl #[.agg #[.slice A0_0 l0_0.length c0_0, .slice A0_1 l0_1.length c0_1], .int .i64 1048576] rfl (by (try simp only [lm]); first | done | rfl | (simp only [List.length_drop, List.length_take]; rfl)) ?_; (with_reducible refine (laws_szProgram.calls k _ _ l0_0 _ _ l0_1 1048576 t382 _ ?side1 ?side2 ?side3 ?side4 A2.out).mono ?_); (case side1 => exact Kd.C_below HR0_0.out (be w)); (case side2 => exact HC0_0.out); (case side3 => exact Kd.C_below HR0_1.out (be w)); (case side4 => exact HC0_1.out); rintro e w6 ⟨rfl, hb⟩; refine ⟨_, rfl, ?_⟩; replace HB := As.mk (below_step (be w) hb); (try clear hb); (try clear hb2); (try clear hk); (try clear hi)))
  go_ret
  exact ⟨by first | rfl | (simp [errW_none, errW_some] <;> rfl) | (simp [*, errW_none, errW_some] <;> rfl), be w⟩
 rw [if_neg c3] at H
 have c3b0 : decide (t382 < 0) = false := decide_eq_false c3
 clear c3
 obtain ⟨⟨t383, t386⟩, A70, H⟩ := Option.bind_eq_some_iff.mp H
 try dsimp only at H
 have A7 := As.mk A70
 clear A70
 obtain ⟨t389, A80, H⟩ := Option.bind_eq_some_iff.mp H
 try dsimp only at H
 have A8 := As.mk A80
 clear A80
 obtain ⟨⟨t390, t393⟩, A90, H⟩ := Option.bind_eq_some_iff.mp H
 try dsimp only at H
 have A9 := As.mk A90
 clear A90
 obtain ⟨t397, A100, H⟩ := Option.bind_eq_some_iff.mp H
 try dsimp only at H
 have A10 := As.mk A100
 clear A100
 by_cases c11 : (t397 != t389) = true
 ·
  rw [if_pos c11] at H
  have c11b0 : (t397 != t389) = true := c11
  (try (have c11b1 : decide (t397 = t389) = false := by simpa using c11))
  (try (have c11b2 : (t397 == t389) = false := by simpa using c11))
  (try (have c11b3 : ¬ (t397 = t389) := by simpa using c11))
  clear c11
  exact absurd H (by rw [hrt.out]; simp)
 rw [if_neg c11] at H
 have c11b0 : (t397 != t389) = false := by simpa using c11
 (try (have c11b1 : decide (t397 = t389) = true := by simpa using c11))
 (try (have c11b2 : (t397 == t389) = true := by simpa using c11))
 clear c11
 obtain ⟨⟨t398, t401⟩, A120, H⟩ := Option.bind_eq_some_iff.mp H
 try dsimp only at H
 have A12 := As.mk A120
 clear A120
 obtain ⟨t404, A130, H⟩ := Option.bind_eq_some_iff.mp H
 try dsimp only at H
 have A13 := As.mk A130
 clear A130
 by_cases c14 : t404 = true
 rotate_left
 ·
  replace c14 := Bool.eq_false_iff.mpr c14
  subst c14
  rw [if_neg (show ¬ (false = true) by decide)] at H
  exact absurd H (by rw [hrt.out]; simp)

 subst c14
 rw [if_pos rfl] at H
 obtain rfl := Option.some.inj H
 go_enter Tryd.func9, Tryd.ntmps9
 try go_wp2_with (first | ((with_reducible refine gate_dst (N := 1) rfl ?_); refine box_event ?hg (N := 1) ?hd (cs := #[.slice A0_0 l0_0.length c0_0, .slice A0_1 l0_1.length c0_1]) (t := 47) ?hr ?_; (case hd => rfl); (case hg => rfl); (case hr => first | (go_simp; done) | (go_simp; rfl)); intro gb381 hg w15 hbox hb; have BK381 := As.mk (hbox); have GW381 := As.mk (gs w hg); have GE381 := As.mk (gs w hg); replace HB := As.mk (below_step (be w) hb); clear hb hbox hg; obtain ⟨hcz16_0, hcz16_1, hfz16_0, hfz16_1⟩ := cl2 BK381.out) | ((with_reducible refine gate_callee (f := 29) rfl ?_); refine goesL_ (some 9) rfl rfl Tryd.func29 (by kernel_rfl) rfl #[.agg #[.slice A0_0 l0_0.length c0_0, .slice A0_1 l0_1.length c0_1], .int .i64 1048576] rfl (by (try simp only [lm]); first | done | rfl | (simp only [List.length_drop, List.length_take]; rfl)) ?_; (with_reducible refine (laws_szProgram.calls k _ _ l0_0 _ _ l0_1 1048576 t382 _ ?side1 ?side2 ?side3 ?side4 A2.out).mono ?_); (case side1 => exact Kd.C_below HR0_0.out (be w)); (case side2 => exact HC0_0.out); (case side3 => exact Kd.C_below HR0_1.out (be w)); (case side4 => exact HC0_1.out); rintro e w17 ⟨rfl, hb⟩; refine ⟨_, rfl, ?_⟩; replace BK381 := As.mk (blk_below (bx BK381.out) hb); replace HB := As.mk (below_step (be w) hb); (try clear hb); (try clear hb2); (try clear hk); (try clear hi); obtain ⟨hcz18_0, hcz18_1, hfz18_0, hfz18_1⟩ := cl2 BK381.out) | ((with_reducible refine gate_callee (f := 31) rfl ?_); refine goesL_ (some 13) rfl rfl Tryd.func31 (by kernel_rfl) rfl #[.agg #[.slice A0_0 l0_0.length c0_0, .slice A0_1 l0_1.length c0_1]] rfl (by (try simp only [lm]); first | done | rfl | (simp only [List.length_drop, List.length_take]; rfl)) ?_; (with_reducible refine (laws_toProgram.calls k _ _ l0_0 _ _ l0_1 t383 t386 _ ?side1 ?side2 ?side3 ?side4 A7.out).mono ?_); (case side1 => exact Kd.C_below HR0_0.out (be w)); (case side2 => exact HC0_0.out); (case side3 => exact Kd.C_below HR0_1.out (be w)); (case side4 => exact HC0_1.out); rintro e w19 ⟨v384, v387, rfl, ho0, ho1, hb⟩; refine ⟨_, rfl, ?_⟩; have HO385 := As.mk (Kd.S_lower ho0 (below_size (be w))); have HO388 := As.mk (Kd.S_lower ho1 (below_size (be w))); replace BK381 := As.mk (blk_below (bx BK381.out) hb); replace HB := As.mk (below_step (be w) hb); (try clear hb); (try clear hb2); (try clear hk); (try clear hi); (try clear ho0); (try clear ho1); obtain ⟨Ao20, co20, eo20⟩ := Kd.S_slice HO385.out; subst eo20; obtain ⟨Ao21, co21, eo21⟩ := Kd.S_slice HO388.out; subst eo21) | ((with_reducible refine gate_callee (f := 36) rfl ?_); refine goesL_ (some 14) rfl rfl Tryd.func36 (by kernel_rfl) rfl #[.agg #[.slice Ao20 t383.length co20, .slice Ao21 t386.length co21]] rfl (by (try simp only [lm]); first | done | rfl | (simp only [List.length_drop, List.length_take]; rfl)) ?_; (with_reducible refine (spec_ProgramOk.calls k _ _ t383 _ _ t386 t389 _ ?side1 ?side2 ?side3 ?side4 A8.out).mono ?_); (case side1 => repeat (first | exact (Kd.S_reads' HO385.out).2.2 | (with_reducible refine Kd.C_alloc ?_ _) | (with_reducible refine Kd.C_drewN ?_ _) | (with_reducible refine Kd.C_drew ?_))); (case side2 => exact (Kd.S_reads' HO385.out).2.1); (case side3 => repeat (first | exact (Kd.S_reads' HO388.out).2.2 | (with_reducible refine Kd.C_alloc ?_ _) | (with_reducible refine Kd.C_drewN ?_ _) | (with_reducible refine Kd.C_drew ?_))); (case side4 => exact (Kd.S_reads' HO388.out).2.1); rintro e w22 ⟨rfl, hb⟩; refine ⟨_, rfl, ?_⟩; replace HO385 := As.mk (Kd.S_below (by (with_reducible repeat (first | apply Kd.S_alloc | apply Kd.S_drewN | apply Kd.S_drew)); exact HO385.out) hb); replace HO388 := As.mk (Kd.S_below (by (with_reducible repeat (first | apply Kd.S_alloc | apply Kd.S_drewN | apply Kd.S_drew)); exact HO388.out) hb); replace BK381 := As.mk (blk_below (bx BK381.out) hb); replace HB := As.mk (below_step (be w) hb); (try clear hb); (try clear hb2); (try clear hk); (try clear hi); obtain ⟨hcz23_0, hcz23_1, hfz23_0, hfz23_1⟩ := cl2 BK381.out) | ((with_reducible refine gate_callee (f := 31) rfl ?_); refine goesL_ (some 16) rfl rfl Tryd.func31 (by kernel_rfl) rfl #[.agg #[.slice A0_0 l0_0.length c0_0, .slice A0_1 l0_1.length c0_1]] rfl (by (try simp only [lm]); first | done | rfl | (simp only [List.length_drop, List.length_take]; rfl)) ?_; (with_reducible refine (laws_toProgram.calls k _ _ l0_0 _ _ l0_1 t390 t393 _ ?side1 ?side2 ?side3 ?side4 A9.out).mono ?_); (case side1 => exact Kd.C_below HR0_0.out (be w)); (case side2 => exact HC0_0.out); (case side3 => exact Kd.C_below HR0_1.out (be w)); (case side4 => exact HC0_1.out); rintro e w24 ⟨v391, v394, rfl, ho0, ho1, hb⟩; refine ⟨_, rfl, ?_⟩; have HO392 := As.mk (Kd.S_lower (Kd.S_new' ho0 (Kd.S_lt (by (with_reducible repeat (first | apply Kd.S_alloc | apply Kd.S_drewN | apply Kd.S_drew)); exact HO385.out))) (below_size (be w))); replace HO385 := As.mk (Kd.S_elder' (by (with_reducible repeat (first | apply Kd.S_alloc | apply Kd.S_drewN | apply Kd.S_drew)); exact HO385.out) (Kd.S_base ho0) hb); have HO395 := As.mk (Kd.S_lower (Kd.S_new' ho1 (Kd.S_lt (by (with_reducible repeat (first | apply Kd.S_alloc | apply Kd.S_drewN | apply Kd.S_drew)); exact HO388.out))) (below_size (be w))); replace HO388 := As.mk (Kd.S_elder' (by (with_reducible repeat (first | apply Kd.S_alloc | apply Kd.S_drewN | apply Kd.S_drew)); exact HO388.out) (Kd.S_base ho1) hb); replace BK381 := As.mk (blk_below (bx BK381.out) hb); replace HB := As.mk (below_step (be w) hb); (try clear hb); (try clear hb2); (try clear hk); (try clear hi); (try clear ho0); (try clear ho1)) | ((with_reducible refine gate_dst (N := 5) rfl ?_); refine box_event ?hg (N := 5) ?hd (cs := #[.slice none 0 0, .slice none 0 0]) (t := 52) ?hr ?_; (case hd => rfl); (case hg => rfl); (case hr => first | (go_simp; done) | (go_simp; rfl)); intro gb396 hg w25 hbox hb; replace HO385 := As.mk (Kd.S_below (by (with_reducible repeat (first | apply Kd.S_alloc | apply Kd.S_drewN | apply Kd.S_drew)); exact HO385.out) hb); replace HO388 := As.mk (Kd.S_below (by (with_reducible repeat (first | apply Kd.S_alloc | apply Kd.S_drewN | apply Kd.S_drew)); exact HO388.out) hb); replace HO392 := As.mk (Kd.S_below (by (with_reducible repeat (first | apply Kd.S_alloc | apply Kd.S_drewN | apply Kd.S_drew)); exact HO392.out) hb); replace HO395 := As.mk (Kd.S_below (by (with_reducible repeat (first | apply Kd.S_alloc | apply Kd.S_drewN | apply Kd.S_drew)); exact HO395.out) hb); have BK396 := As.mk (hbox); have GW396 := As.mk (gs w hg); have GE396 := As.mk (gs w hg); replace HB := As.mk (below_step (be w) hb); have NB381_396 := As.mk (nl hg (bx BK381.out)); have NB396_381 := As.mk (ng hg (bx BK381.out)); replace BK381 := As.mk (blk_below (bx BK381.out) hb); clear hb hbox hg; obtain ⟨Ao26, co26, eo26⟩ := Kd.S_slice HO392.out; subst eo26; have hnb27 := NB396_381.out; have hnc27 := NB381_396.out; obtain ⟨hcz28_0, hcz28_1, hfz28_0, hfz28_1⟩ := cl2 BK396.out; obtain ⟨Ao29, co29, eo29⟩ := Kd.S_slice HO395.out; subst eo29) | ((with_reducible refine gate_callee (f := 37) rfl ?_); refine goesL_ (some 18) rfl rfl Tryd.func37 (by kernel_rfl) rfl #[.agg #[.slice Ao26 t390.length co26, .slice Ao29 t393.length co29]] rfl (by (try simp only [lm]); first | done | rfl | (simp only [List.length_drop, List.length_take]; rfl)) ?_; (with_reducible refine (impl_ProgramOk.calls k _ _ t390 _ _ t393 t397 _ ?side1 ?side2 ?side3 ?side4 A10.out).mono ?_); (case side1 => refine (Kd.S_reads' (e := 64) (base := w.heap.size) (ok := fun k_ => (True ∧ some k_ ≠ (.slice Ao20 t383.length co20 : Value).ownBlock)) (n := t390.length) (c := co26) ?_).2.2; exact (by (with_reducible repeat (first | apply Kd.S_alloc | apply Kd.S_drewN | apply Kd.S_drew)); exact (Kd.S_mono (Kd.S_far (p := ⟨gb396, 1, none⟩) (Kd.S_far (p := ⟨gb396, 0, none⟩) (Kd.S_types HO392.out BK396.out (by decide)) (fun _ hk => hk.2) (.slice Ao26 t390.length co26)) (fun _ hk => hk.2) (.slice Ao29 t393.length co29)) (fun _ h_ => h_.1)))); (case side2 => exact (Kd.S_reads' HO392.out).2.1); (case side3 => refine (Kd.S_reads' (e := 93) (base := w.heap.size) (ok := fun k_ => (True ∧ some k_ ≠ (.slice Ao21 t386.length co21 : Value).ownBlock)) (n := t393.length) (c := co29) ?_).2.2; exact (by (with_reducible repeat (first | apply Kd.S_alloc | apply Kd.S_drewN | apply Kd.S_drew)); exact (Kd.S_mono (Kd.S_far (p := ⟨gb396, 1, none⟩) (Kd.S_far (p := ⟨gb396, 0, none⟩) (Kd.S_types HO395.out BK396.out (by decide)) (fun _ hk => hk.2) (.slice Ao26 t390.length co26)) (fun _ hk => hk.2) (.slice Ao29 t393.length co29)) (fun _ h_ => h_.1)))); (case side4 => exact (Kd.S_reads' HO395.out).2.1); rintro e w30 ⟨rfl, hb⟩; refine ⟨_, rfl, ?_⟩; replace HO385 := As.mk (Kd.S_below (by (with_reducible repeat (first | apply Kd.S_alloc | apply Kd.S_drewN | apply Kd.S_drew)); exact (Kd.S_mono (Kd.S_far (p := ⟨gb396, 1, none⟩) (Kd.S_far (p := ⟨gb396, 0, none⟩) (Kd.S_types HO385.out BK396.out (by decide)) (fun _ hk => hk.2) (.slice Ao26 t390.length co26)) (fun _ hk => hk.2) (.slice Ao29 t393.length co29)) (fun _ h_ => h_.1))) hb); replace HO388 := As.mk (Kd.S_below (by (with_reducible repeat (first | apply Kd.S_alloc | apply Kd.S_drewN | apply Kd.S_drew)); exact (Kd.S_mono (Kd.S_far (p := ⟨gb396, 1, none⟩) (Kd.S_far (p := ⟨gb396, 0, none⟩) (Kd.S_types HO388.out BK396.out (by decide)) (fun _ hk => hk.2) (.slice Ao26 t390.length co26)) (fun _ hk => hk.2) (.slice Ao29 t393.length co29)) (fun _ h_ => h_.1))) hb); replace HO392 := As.mk (Kd.S_below (by (with_reducible repeat (first | apply Kd.S_alloc | apply Kd.S_drewN | apply Kd.S_drew)); exact (Kd.S_mono (Kd.S_far (p := ⟨gb396, 1, none⟩) (Kd.S_far (p := ⟨gb396, 0, none⟩) (Kd.S_types HO392.out BK396.out (by decide)) (fun _ hk => hk.2) (.slice Ao26 t390.length co26)) (fun _ hk => hk.2) (.slice Ao29 t393.length co29)) (fun _ h_ => h_.1))) hb); replace HO395 := As.mk (Kd.S_below (by (with_reducible repeat (first | apply Kd.S_alloc | apply Kd.S_drewN | apply Kd.S_drew)); exact (Kd.S_mono (Kd.S_far (p := ⟨gb396, 1, none⟩) (Kd.S_far (p := ⟨gb396, 0, none⟩) (Kd.S_types HO395.out BK396.out (by decide)) (fun _ hk => hk.2) (.slice Ao26 t390.length co26)) (fun _ hk => hk.2) (.slice Ao29 t393.length co29)) (fun _ h_ => h_.1))) hb); replace BK381 := As.mk (blk_below (g := gb381) (o := .cells #[.slice A0_0 l0_0.length c0_0, .slice A0_1 l0_1.length c0_1] 47 (0, 0)) (by refine pl ?_; refine blk_far ?_ NB381_396.out _; refine pl ?_; refine blk_far ?_ NB381_396.out _; exact bx BK381.out) hb); replace BK396 := As.mk (blk_below (g := gb396) (o := .cells #[.slice Ao26 t390.length co26, .slice Ao29 t393.length co29] 52 (0, 0)) (by refine pl ?_; refine blk_put (cs := #[.slice Ao26 t390.length co26, .slice none 0 0]) ?_ 1 _ rfl; refine pl ?_; refine blk_put (cs := #[.slice none 0 0, .slice none 0 0]) ?_ 0 _ rfl; exact bx BK396.out) hb); replace HB := As.mk (below_step (be w) hb); (try clear hb); (try clear hb2); (try clear hk); (try clear hi)))
 replace HO385 := As.mk (Kd.S_drew HO385.out)
 replace HO388 := As.mk (Kd.S_drew HO388.out)
 replace HO392 := As.mk (Kd.S_drew HO392.out)
 replace HO395 := As.mk (Kd.S_drew HO395.out)
 replace BK381 := As.mk (blk_drew BK381.out)
 replace BK396 := As.mk (blk_drew BK396.out)
 replace HB := As.mk (below_drew1 HB.out)
 refine start_ (n := 5) (S := fun w' => w'.cell? ⟨gb396, 0, none⟩ = some (.slice Ao26 t390.length co26) ∧ w'.cell? ⟨gb396, 1, none⟩ = some (.slice Ao29 t393.length co29) ∧ w'.cell? ⟨gb381, 0, none⟩ = some (.slice A0_0 l0_0.length c0_0) ∧ w'.cell? ⟨gb381, 1, none⟩ = some (.slice A0_1 l0_1.length c0_1)) (ds := []) #[O, O, O, O, O] (by kernel_rfl) rfl rfl ⟨(blk_cell BK396.out 0).trans rfl, (blk_cell BK396.out 1).trans rfl, (blk_cell BK381.out 0).trans rfl, (blk_cell BK381.out 1).trans rfl⟩ (fun hHeld => ?_)
 generalize w30.drew = w31 at HO385 HO388 HO392 HO395 BK381 BK396 HB hHeld ⊢
 refine take_ (i := 0) (N := some 22) (v := ?_) (a' := ?_) #[I, O, O, O, O] rfl rfl (by kernel_rfl) (fun _ _ _ h => h) (Or.inl ⟨by rfl, ?_⟩) hHeld ?_ ?_
 rotate_left
 ·
  rintro w' ⟨s0, s1, s2, s3⟩
  go_simp
  with_reducible rfl
 rotate_left
 ·
  simp only [pk, i64_w, i32_w]
  rfl
 refine take_ (i := 1) (N := some 23) (v := ?_) (a' := ?_) #[I, I, O, O, O] rfl rfl (by kernel_rfl) (fun _ _ _ h => h) (Or.inl ⟨by rfl, ?_⟩) hHeld ?_ ?_
 rotate_left
 ·
  rintro w' ⟨s0, s1, s2, s3⟩
  go_simp
  with_reducible rfl
 rotate_left
 ·
  simp only [pk, i64_w, i32_w]
  rfl
 refine one_ (i := 2) (N := some 24) #[I, I, I, O, O] rfl rfl (by kernel_rfl) (by decide) (fun K hK => ?_)
 refine goes_ Tryd.func31 (by kernel_rfl) rfl #[.agg #[.slice A0_0 l0_0.length c0_0, .slice A0_1 l0_1.length c0_1]] (by rfl) rfl rfl (by (try simp only [lm]); first | done | rfl | (simp only [List.length_drop, List.length_take]; rfl)) ?_
 with_reducible refine (laws_toProgram.calls k _ _ l0_0 _ _ l0_1 t398 t401 _ ?side1 ?side2 ?side3 ?side4 A12.out).mono ?_
 (case side1 => exact Kd.C_below HR0_0.out (be w))
 (case side2 => exact HC0_0.out)
 (case side3 => exact Kd.C_below HR0_1.out (be w))
 (case side4 => exact HC0_1.out)
 rintro e w32 ⟨v399, v402, rfl, ho0, ho1, hb⟩
 refine ⟨_, rfl, ?_⟩
 have HO400 := As.mk (Kd.S_lower (Kd.S_new' (Kd.S_new' ho0 (Kd.S_lt (by (with_reducible repeat (first | apply Kd.S_alloc | apply Kd.S_drewN | apply Kd.S_drew)); exact HO385.out))) (Kd.S_lt (by (with_reducible repeat (first | apply Kd.S_alloc | apply Kd.S_drewN | apply Kd.S_drew)); exact HO392.out))) (below_size (be w)))
 replace HO385 := As.mk (Kd.S_elder' (by (with_reducible repeat (first | apply Kd.S_alloc | apply Kd.S_drewN | apply Kd.S_drew)); exact HO385.out) (Kd.S_base ho0) hb)
 replace HO392 := As.mk (Kd.S_elder' (by (with_reducible repeat (first | apply Kd.S_alloc | apply Kd.S_drewN | apply Kd.S_drew)); exact HO392.out) (Kd.S_base ho0) hb)
 have HO403 := As.mk (Kd.S_lower (Kd.S_new' (Kd.S_new' ho1 (Kd.S_lt (by (with_reducible repeat (first | apply Kd.S_alloc | apply Kd.S_drewN | apply Kd.S_drew)); exact HO388.out))) (Kd.S_lt (by (with_reducible repeat (first | apply Kd.S_alloc | apply Kd.S_drewN | apply Kd.S_drew)); exact HO395.out))) (below_size (be w)))
 replace HO388 := As.mk (Kd.S_elder' (by (with_reducible repeat (first | apply Kd.S_alloc | apply Kd.S_drewN | apply Kd.S_drew)); exact HO388.out) (Kd.S_base ho1) hb)
 replace HO395 := As.mk (Kd.S_elder' (by (with_reducible repeat (first | apply Kd.S_alloc | apply Kd.S_drewN | apply Kd.S_drew)); exact HO395.out) (Kd.S_base ho1) hb)
 replace BK381 := As.mk (blk_below (bx BK381.out) hb)
 replace BK396 := As.mk (blk_below (bx BK396.out) hb)
 replace HB := As.mk (below_step (be w) hb)
 (try clear hb)
 (try clear hb2)
 (try clear hk)
 (try clear hi)
 (try clear ho0)
 (try clear ho1)
 obtain ⟨Ao33, co33, eo33⟩ := Kd.S_slice HO400.out
 (first | subst eo33 | (injection eo33 with f1_ f2_ f3_; have f4_ := f1_.symm; have f5_ := f3_.symm; clear f1_ f2_ f3_; subst f4_; subst f5_))
 obtain ⟨Ao34, co34, eo34⟩ := Kd.S_slice HO403.out
 (first | subst eo34 | (injection eo34 with f1_ f2_ f3_; have f4_ := f1_.symm; have f5_ := f3_.symm; clear f1_ f2_ f3_; subst f4_; subst f5_))
 refine hK.out _ _ ⟨(blk_cell BK396.out 0).trans rfl, (blk_cell BK396.out 1).trans rfl, (blk_cell BK381.out 0).trans rfl, (blk_cell BK381.out 1).trans rfl⟩ (fun hHeld => ?_)
 clear hK K
 refine norm_ (a' := ?_) ?_ ?_
 rotate_left
 ·
  show Act.put _ (some 24) _ = _
  simp only [pk, i64_w, i32_w]
  rfl
 refine one_ (i := 3) (N := some 25) #[I, I, I, I, O] rfl rfl (by kernel_rfl) (by decide) (fun K hK => ?_)
 refine goes_ Tryd.func33 (by kernel_rfl) rfl #[.agg #[.slice Ao26 t390.length co26, .slice Ao29 t393.length co29], .agg #[.slice Ao33 t398.length co33, .slice Ao34 t401.length co34]] (by rfl) rfl rfl (by (try simp only [lm]); first | done | rfl | (simp only [List.length_drop, List.length_take]; rfl)) ?_
 with_reducible refine (laws_eqProgram.calls k _ _ t390 _ _ t393 _ _ t398 _ _ t401 true _ ?side1 ?side2 ?side3 ?side4 ?side5 ?side6 ?side7 ?side8 A13.out).mono ?_
 (case side1 => repeat (first | exact (Kd.S_reads' HO392.out).2.2 | (with_reducible refine Kd.C_alloc ?_ _) | (with_reducible refine Kd.C_drewN ?_ _) | (with_reducible refine Kd.C_drew ?_)))
 (case side2 => exact (Kd.S_reads' HO392.out).2.1)
 (case side3 => repeat (first | exact (Kd.S_reads' HO395.out).2.2 | (with_reducible refine Kd.C_alloc ?_ _) | (with_reducible refine Kd.C_drewN ?_ _) | (with_reducible refine Kd.C_drew ?_)))
 (case side4 => exact (Kd.S_reads' HO395.out).2.1)
 (case side5 => repeat (first | exact (Kd.S_reads' HO400.out).2.2 | (with_reducible refine Kd.C_alloc ?_ _) | (with_reducible refine Kd.C_drewN ?_ _) | (with_reducible refine Kd.C_drew ?_)))
 (case side6 => exact (Kd.S_reads' HO400.out).2.1)
 (case side7 => repeat (first | exact (Kd.S_reads' HO403.out).2.2 | (with_reducible refine Kd.C_alloc ?_ _) | (with_reducible refine Kd.C_drewN ?_ _) | (with_reducible refine Kd.C_drew ?_)))
 (case side8 => exact (Kd.S_reads' HO403.out).2.1)
 rintro e w35 ⟨rfl, hb⟩
 refine ⟨_, rfl, ?_⟩
 replace HO385 := As.mk (Kd.S_below (by (with_reducible repeat (first | apply Kd.S_alloc | apply Kd.S_drewN | apply Kd.S_drew)); exact HO385.out) hb)
 replace HO388 := As.mk (Kd.S_below (by (with_reducible repeat (first | apply Kd.S_alloc | apply Kd.S_drewN | apply Kd.S_drew)); exact HO388.out) hb)
 replace HO392 := As.mk (Kd.S_below (by (with_reducible repeat (first | apply Kd.S_alloc | apply Kd.S_drewN | apply Kd.S_drew)); exact HO392.out) hb)
 replace HO395 := As.mk (Kd.S_below (by (with_reducible repeat (first | apply Kd.S_alloc | apply Kd.S_drewN | apply Kd.S_drew)); exact HO395.out) hb)
 replace HO400 := As.mk (Kd.S_below (by (with_reducible repeat (first | apply Kd.S_alloc | apply Kd.S_drewN | apply Kd.S_drew)); exact HO400.out) hb)
 replace HO403 := As.mk (Kd.S_below (by (with_reducible repeat (first | apply Kd.S_alloc | apply Kd.S_drewN | apply Kd.S_drew)); exact HO403.out) hb)
 replace BK381 := As.mk (blk_below (bx BK381.out) hb)
 replace BK396 := As.mk (blk_below (bx BK396.out) hb)
 replace HB := As.mk (below_step (be w) hb)
 (try clear hb)
 (try clear hb2)
 (try clear hk)
 (try clear hi)
 refine hK.out _ _ ⟨(blk_cell BK396.out 0).trans rfl, (blk_cell BK396.out 1).trans rfl, (blk_cell BK381.out 0).trans rfl, (blk_cell BK381.out 1).trans rfl⟩ (fun hHeld => ?_)
 clear hK K
 refine norm_ (a' := ?_) ?_ ?_
 rotate_left
 ·
  show Act.put _ (some 25) _ = _
  simp only [pk, i64_w, i32_w]
  rfl
 refine pure_ (i := 4) (N := some 26) (v := ?_) (a' := ?_) #[I, I, I, I, I] rfl rfl (by kernel_rfl) (fun _ _ _ h => h) (Or.inl ⟨by rfl, ?_⟩) ?_ ?_
 rotate_left
 ·
  intro w'
  go_simp
  with_reducible rfl
 rotate_left
 ·
  simp only [pk, i64_w, i32_w]
  rfl
 refine done_ (by kernel_rfl) ?_
 try go_wp2
 go_ret
 exact ⟨by first | rfl | (simp [errW_none, errW_some] <;> rfl) | (simp [*, errW_none, errW_some] <;> rfl), be w⟩
end Go.Proofs.YtmdpggibcjkfoaaDoor.PFnExactProgramOk
