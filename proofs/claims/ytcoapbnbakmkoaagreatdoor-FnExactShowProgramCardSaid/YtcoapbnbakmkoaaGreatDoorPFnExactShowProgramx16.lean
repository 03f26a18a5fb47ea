/- Written by a program of this session (a turned copy of the kit's print): a contract for each Go function. No condition beside those in each statement. -/
import Derived.Test.YtcoapbnbakmkoaaGreatDoorPFnExactShowProgramx0
import Derived.Test.YtcoapbnbakmkoaaGreatDoorPFnExactShowProgramx12
import Derived.Test.YtcoapbnbakmkoaaGreatDoorPFnExactShowProgramx15
namespace Go.Proofs.YtcoapbnbakmkoaaGreatDoor.PFnExactShowProgram
open Go.RowKit Go.Proofs.YtcoapbnbakmkoaaGreatDoor.Given Go.Proofs.YtcoapbnbakmkoaaGreatDoorW.PrintWords Go.Proofs.YtcoapbnbakmkoaaGreatDoorW.PrintLast Go.Proofs.YtcoapbnbakmkoaaGreatDoorW.PrintMore
attribute [local go_sem] max2_int min2_int max_two min_two max_three min_three max_four min_four   -- for this text's walks alone
set_option linter.unusedVariables false
set_option linter.unusedSimpArgs false

/-! ### impl_ProgramOk: function 53 -/
mutual
def impl_ProgramOk.j0 : Nat → Int → Bool → List (S62) → List (S56) → Option (Bool)
 | 0, _, _, _, _ => none
 | k + 1, x3, x35, x426000, x426001 => if x35 = true then (some false) else (if 0 ≤ x3 then (if (x3 : Int).toNat ≤ 35184372088832 then (impl_ProgramOk.l0 k (List.replicate (x3 : Int).toNat 0) x426000 (x426000.length : Int) 0 x426000 x426001) else (none)) else (none))
def impl_ProgramOk.l0 : Nat → List Int → List (S62) → Int → Int → List (S62) → List (S56) → Option (Bool)
 | 0, _, _, _, _, _, _ => none
 | k + 1, x4, x39, x40, x41, x426000, x426001 => if x41 < x40 then (if 0 ≤ x41 then (if x41 < (x39.length : Int) then (impl_ProgramOk.l1 k x4 x39 x40 x41 ((rd_T62 x39 x41).f3) (((rd_T62 x39 x41).f3).length : Int) 0 x426000 x426001) else (none)) else (none)) else (impl_ProgramOk.l2 k x4 x426001 (x426001.length : Int) 0 x426000 x426001)
def impl_ProgramOk.l1 : Nat → List Int → List (S62) → Int → Int → List Int → Int → Int → List (S62) → List (S56) → Option (Bool)
 | 0, _, _, _, _, _, _, _, _, _ => none
 | k + 1, x4, x39, x40, x41, x46, x47, x48, x426000, x426001 => if x48 < x47 then (if 0 ≤ x48 then (if x48 < (x46.length : Int) then (if 0 ≤ (rd x46 x48) then (if (rd x46 x48) < (x4.length : Int) then (impl_ProgramOk.l1 k (x4.set ((rd x46 x48) : Int).toNat (wrap64 ((rd x4 (rd x46 x48)) + 1))) x39 x40 x41 x46 x47 (wrap64 (x48 + 1)) x426000 x426001) else (none)) else (none)) else (none)) else (none)) else (impl_ProgramOk.l0 k x4 x39 x40 (wrap64 (x41 + 1)) x426000 x426001)
def impl_ProgramOk.l2 : Nat → List Int → List (S56) → Int → Int → List (S62) → List (S56) → Option (Bool)
 | 0, _, _, _, _, _, _ => none
 | k + 1, x4, x61, x62, x63, x426000, x426001 => if x63 < x62 then (if 0 ≤ x63 then (if x63 < (x61.length : Int) then ((impl_fnOk.f k x426000 x426001 ((rd_T56 x61 x63).f0) ((rd_T56 x61 x63).f1) ((rd_T56 x61 x63).f2) ((rd_T56 x61 x63).f3) ((rd_T56 x61 x63).f4)).bind fun t439 => (if t439 = true then ((impl_FnAt.f k x426000 x426001 ((rd_T56 x61 x63).f0)).bind fun t440 => (impl_ProgramOk.j4 k x4 x61 x62 x63 (t440 != x63) x426000 x426001 ((rd_T56 x61 x63).f0) ((rd_T56 x61 x63).f1) ((rd_T56 x61 x63).f2) ((rd_T56 x61 x63).f3) ((rd_T56 x61 x63).f4))) else (impl_ProgramOk.j4 k x4 x61 x62 x63 true x426000 x426001 ((rd_T56 x61 x63).f0) ((rd_T56 x61 x63).f1) ((rd_T56 x61 x63).f2) ((rd_T56 x61 x63).f3) ((rd_T56 x61 x63).f4)))) else (none)) else (none)) else (impl_ProgramOk.l4 k x4 (x4.length : Int) 0)
def impl_ProgramOk.j4 : Nat → List Int → List (S56) → Int → Int → Bool → List (S62) → List (S56) → ByteArray → List (S58) → Int → Int → Int → Option (Bool)
 | 0, _, _, _, _, _, _, _, _, _, _, _, _ => none
 | k + 1, x4, x61, x62, x63, x79, x426000, x426001, x439000, x439001, x439002, x439003, x439004 => if x79 = true then (some false) else ((some (([x439003, x439004] : List Int) : List Int)).bind fun y441 => (impl_ProgramOk.l3 k x4 x61 x62 x63 y441 (y441.length : Int) 0 x426000 x426001))
def impl_ProgramOk.l3 : Nat → List Int → List (S56) → Int → Int → List Int → Int → Int → List (S62) → List (S56) → Option (Bool)
 | 0, _, _, _, _, _, _, _, _, _ => none
 | k + 1, x4, x61, x62, x63, x84, x85, x86, x426000, x426001 => if x86 < x85 then (if 0 ≤ x86 then (if x86 < (x84.length : Int) then (if (rd x84 x86) < 0 then (impl_ProgramOk.l3 k x4 x61 x62 x63 x84 x85 (wrap64 (x86 + 1)) x426000 x426001) else (if 0 ≤ (rd x84 x86) then (if (rd x84 x86) < (x4.length : Int) then (if (rd x4 (rd x84 x86)) = 0 then (impl_ProgramOk.l3 k (x4.set ((rd x84 x86) : Int).toNat (-1)) x61 x62 x63 x84 x85 (wrap64 (x86 + 1)) x426000 x426001) else (some false)) else (none)) else (none))) else (none)) else (none)) else (impl_ProgramOk.l2 k x4 x61 x62 (wrap64 (x63 + 1)) x426000 x426001)
def impl_ProgramOk.l4 : Nat → List Int → Int → Int → Option (Bool)
 | 0, _, _, _ => none
 | k + 1, x102, x103, x104 => if x104 < x103 then (if 0 ≤ x104 then (if x104 < (x102.length : Int) then (if (rd x102 x104) = 1 then (impl_ProgramOk.l4 k x102 x103 (wrap64 (x104 + 1))) else (if (rd x102 x104) = (-1) then (impl_ProgramOk.l4 k x102 x103 (wrap64 (x104 + 1))) else (some false))) else (none)) else (none)) else (some true)
end
def impl_ProgramOk.f (k : Nat) (l0_0 : List (S62)) (l0_1 : List (S56)) : Option (Bool) := (impl_in.f (l0_0.length : Int) 1 300).bind fun t426 => (if t426 = true then ((impl_in.f (l0_1.length : Int) 1 8).bind fun t427 => (if t427 = true then ((impl_DeepOf.f k l0_0 (wrap64 ((l0_0.length : Int) - 1))).bind fun t428 => (impl_ProgramOk.j0 k (l0_0.length : Int) (t428 == 0) l0_0 l0_1)) else (impl_ProgramOk.j0 k (l0_0.length : Int) true l0_0 l0_1))) else (impl_ProgramOk.j0 k (l0_0.length : Int) true l0_0 l0_1))
theorem impl_ProgramOk.mono_l : ∀ k, (∀ y0 y1 y2 y3, LeO (impl_ProgramOk.j0 k y0 y1 y2 y3) (impl_ProgramOk.j0 (k + 1) y0 y1 y2 y3)) ∧ (∀ y0 y1 y2 y3 y4 y5, LeO (impl_ProgramOk.l0 k y0 y1 y2 y3 y4 y5) (impl_ProgramOk.l0 (k + 1) y0 y1 y2 y3 y4 y5)) ∧ (∀ y0 y1 y2 y3 y4 y5 y6 y7 y8, LeO (impl_ProgramOk.l1 k y0 y1 y2 y3 y4 y5 y6 y7 y8) (impl_ProgramOk.l1 (k + 1) y0 y1 y2 y3 y4 y5 y6 y7 y8)) ∧ (∀ y0 y1 y2 y3 y4 y5, LeO (impl_ProgramOk.l2 k y0 y1 y2 y3 y4 y5) (impl_ProgramOk.l2 (k + 1) y0 y1 y2 y3 y4 y5)) ∧ (∀ y0 y1 y2 y3 y4 y5 y6 y7 y8 y9 y10 y11, LeO (impl_ProgramOk.j4 k y0 y1 y2 y3 y4 y5 y6 y7 y8 y9 y10 y11) (impl_ProgramOk.j4 (k + 1) y0 y1 y2 y3 y4 y5 y6 y7 y8 y9 y10 y11)) ∧ (∀ y0 y1 y2 y3 y4 y5 y6 y7 y8, LeO (impl_ProgramOk.l3 k y0 y1 y2 y3 y4 y5 y6 y7 y8) (impl_ProgramOk.l3 (k + 1) y0 y1 y2 y3 y4 y5 y6 y7 y8)) ∧ (∀ y0 y1 y2, LeO (impl_ProgramOk.l4 k y0 y1 y2) (impl_ProgramOk.l4 (k + 1) y0 y1 y2))
 | 0 => ⟨fun _ _ _ _ r h => by simp [impl_ProgramOk.j0] at h, fun _ _ _ _ _ _ r h => by simp [impl_ProgramOk.l0] at h, fun _ _ _ _ _ _ _ _ _ r h => by simp [impl_ProgramOk.l1] at h, fun _ _ _ _ _ _ r h => by simp [impl_ProgramOk.l2] at h, fun _ _ _ _ _ _ _ _ _ _ _ _ r h => by simp [impl_ProgramOk.j4] at h, fun _ _ _ _ _ _ _ _ _ r h => by simp [impl_ProgramOk.l3] at h, fun _ _ _ r h => by simp [impl_ProgramOk.l4] at h⟩
 | k + 1 => by
  obtain ⟨ih0, ih1, ih2, ih3, ih4, ih5, ih6⟩ := impl_ProgramOk.mono_l k
  refine ⟨?_, ?_, ?_, ?_, ?_, ?_, ?_⟩
  ·
   intro y0 y1 y2 y3
   unfold impl_ProgramOk.j0
   with_reducible repeat' first | exact ih0 _ _ _ _ | exact ih1 _ _ _ _ _ _ | exact ih2 _ _ _ _ _ _ _ _ _ | exact ih3 _ _ _ _ _ _ | exact ih4 _ _ _ _ _ _ _ _ _ _ _ _ | exact ih5 _ _ _ _ _ _ _ _ _ | exact ih6 _ _ _ | exact impl_DeepOf.mono _ _ _ | exact impl_FnAt.mono _ _ _ _ | exact impl_fnOk.mono _ _ _ _ _ _ _ _ | exact LeO.refl _ | exact LeO.none _ | refine LeO.ite ?_ ?_ | refine LeO.bind ?_ (fun _ => ?_)
  ·
   intro y0 y1 y2 y3 y4 y5
   unfold impl_ProgramOk.l0
   with_reducible repeat' first | exact ih0 _ _ _ _ | exact ih1 _ _ _ _ _ _ | exact ih2 _ _ _ _ _ _ _ _ _ | exact ih3 _ _ _ _ _ _ | exact ih4 _ _ _ _ _ _ _ _ _ _ _ _ | exact ih5 _ _ _ _ _ _ _ _ _ | exact ih6 _ _ _ | exact impl_DeepOf.mono _ _ _ | exact impl_FnAt.mono _ _ _ _ | exact impl_fnOk.mono _ _ _ _ _ _ _ _ | exact LeO.refl _ | exact LeO.none _ | refine LeO.ite ?_ ?_ | refine LeO.bind ?_ (fun _ => ?_)
  ·
   intro y0 y1 y2 y3 y4 y5 y6 y7 y8
   unfold impl_ProgramOk.l1
   with_reducible repeat' first | exact ih0 _ _ _ _ | exact ih1 _ _ _ _ _ _ | exact ih2 _ _ _ _ _ _ _ _ _ | exact ih3 _ _ _ _ _ _ | exact ih4 _ _ _ _ _ _ _ _ _ _ _ _ | exact ih5 _ _ _ _ _ _ _ _ _ | exact ih6 _ _ _ | exact impl_DeepOf.mono _ _ _ | exact impl_FnAt.mono _ _ _ _ | exact impl_fnOk.mono _ _ _ _ _ _ _ _ | exact LeO.refl _ | exact LeO.none _ | refine LeO.ite ?_ ?_ | refine LeO.bind ?_ (fun _ => ?_)
  ·
   intro y0 y1 y2 y3 y4 y5
   unfold impl_ProgramOk.l2
   with_reducible repeat' first | exact ih0 _ _ _ _ | exact ih1 _ _ _ _ _ _ | exact ih2 _ _ _ _ _ _ _ _ _ | exact ih3 _ _ _ _ _ _ | exact ih4 _ _ _ _ _ _ _ _ _ _ _ _ | exact ih5 _ _ _ _ _ _ _ _ _ | exact ih6 _ _ _ | exact impl_DeepOf.mono _ _ _ | exact impl_FnAt.mono _ _ _ _ | exact impl_fnOk.mono _ _ _ _ _ _ _ _ | exact LeO.refl _ | exact LeO.none _ | refine LeO.ite ?_ ?_ | refine LeO.bind ?_ (fun _ => ?_)
  ·
   intro y0 y1 y2 y3 y4 y5 y6 y7 y8 y9 y10 y11
   unfold impl_ProgramOk.j4
   with_reducible repeat' first | exact ih0 _ _ _ _ | exact ih1 _ _ _ _ _ _ | exact ih2 _ _ _ _ _ _ _ _ _ | exact ih3 _ _ _ _ _ _ | exact ih4 _ _ _ _ _ _ _ _ _ _ _ _ | exact ih5 _ _ _ _ _ _ _ _ _ | exact ih6 _ _ _ | exact impl_DeepOf.mono _ _ _ | exact impl_FnAt.mono _ _ _ _ | exact impl_fnOk.mono _ _ _ _ _ _ _ _ | exact LeO.refl _ | exact LeO.none _ | refine LeO.ite ?_ ?_ | refine LeO.bind ?_ (fun _ => ?_)
  ·
   intro y0 y1 y2 y3 y4 y5 y6 y7 y8
   unfold impl_ProgramOk.l3
   with_reducible repeat' first | exact ih0 _ _ _ _ | exact ih1 _ _ _ _ _ _ | exact ih2 _ _ _ _ _ _ _ _ _ | exact ih3 _ _ _ _ _ _ | exact ih4 _ _ _ _ _ _ _ _ _ _ _ _ | exact ih5 _ _ _ _ _ _ _ _ _ | exact ih6 _ _ _ | exact impl_DeepOf.mono _ _ _ | exact impl_FnAt.mono _ _ _ _ | exact impl_fnOk.mono _ _ _ _ _ _ _ _ | exact LeO.refl _ | exact LeO.none _ | refine LeO.ite ?_ ?_ | refine LeO.bind ?_ (fun _ => ?_)
  ·
   intro y0 y1 y2
   unfold impl_ProgramOk.l4
   with_reducible repeat' first | exact ih0 _ _ _ _ | exact ih1 _ _ _ _ _ _ | exact ih2 _ _ _ _ _ _ _ _ _ | exact ih3 _ _ _ _ _ _ | exact ih4 _ _ _ _ _ _ _ _ _ _ _ _ | exact ih5 _ _ _ _ _ _ _ _ _ | exact ih6 _ _ _ | exact impl_DeepOf.mono _ _ _ | exact impl_FnAt.mono _ _ _ _ | exact impl_fnOk.mono _ _ _ _ _ _ _ _ | exact LeO.refl _ | exact LeO.none _ | refine LeO.ite ?_ ?_ | refine LeO.bind ?_ (fun _ => ?_)
theorem impl_ProgramOk.mono : ∀ a0 a1 k, LeO (impl_ProgramOk.f k a0 a1) (impl_ProgramOk.f (k + 1) a0 a1) := by
 intro a0 a1 k; obtain ⟨ih0, ih1, ih2, ih3, ih4, ih5, ih6⟩ := impl_ProgramOk.mono_l k
 unfold impl_ProgramOk.f
 with_reducible repeat' first | exact ih0 _ _ _ _ | exact ih1 _ _ _ _ _ _ | exact ih2 _ _ _ _ _ _ _ _ _ | exact ih3 _ _ _ _ _ _ | exact ih4 _ _ _ _ _ _ _ _ _ _ _ _ | exact ih5 _ _ _ _ _ _ _ _ _ | exact ih6 _ _ _ | exact impl_DeepOf.mono _ _ _ | exact impl_FnAt.mono _ _ _ _ | exact impl_fnOk.mono _ _ _ _ _ _ _ _ | exact LeO.refl _ | exact LeO.none _ | refine LeO.ite ?_ ?_ | refine LeO.bind ?_ (fun _ => ?_)
set_option maxHeartbeats 8000000 in
set_option maxRecDepth 100000 in
theorem impl_ProgramOk.calls (k : Nat) (A0_0 : Option Addr) (c0_0 : Nat) (l0_0 : List (S62)) (A0_1 : Option Addr) (c0_1 : Nat) (l0_1 : List (S56)) (r : Bool) (w : World) (hr0_0 : Kd.C k62 w A0_0 l0_0.length l0_0) (hc0_0 : l0_0.length ≤ c0_0) (hr0_1 : Kd.C k56 w A0_1 l0_1.length l0_1) (hc0_1 : l0_1.length ≤ c0_1) (h : impl_ProgramOk.f k l0_0 l0_1 = some r) :
  Calls Tryz.prog 53 #[.agg #[.slice A0_0 l0_0.length c0_0, .slice A0_1 l0_1.length c0_1]] w fun e w' => e = .returned (.bool r) ∧ Below w.heap.size w w' := by
 have hu32 := Tryz.underlying32; have hu62 := Tryz.underlying62; have hu56 := Tryz.underlying56; have HR0_0 := As.mk hr0_0; have HC0_0 := As.mk hc0_0; clear hr0_0 hc0_0; have HR0_1 := As.mk hr0_1; have HC0_1 := As.mk hc0_1; clear hr0_1 hc0_1; have HB := As.mk (Below.refl w.heap.size w); have H : ((impl_in.f (l0_0.length : Int) 1 300).bind fun t426 => (if t426 = true then ((impl_in.f (l0_1.length : Int) 1 8).bind fun t427 => (if t427 = true then ((impl_DeepOf.f k l0_0 (wrap64 ((l0_0.length : Int) - 1))).bind fun t428 => (impl_ProgramOk.j0 k (l0_0.length : Int) (t428 == 0) l0_0 l0_1)) else (impl_ProgramOk.j0 k (l0_0.length : Int) true l0_0 l0_1))) else (impl_ProgramOk.j0 k (l0_0.length : Int) true l0_0 l0_1))) = some r := h; clear h; have HC2 := As.mk H; clear H; go_enter Tryz.func53, Tryz.ntmps53
 go_upto_region 2 with (first | ((with_reducible refine gate_dst (N := 1) rfl ?_); (try (refine gate_guard (by rfl) ?_; dsimp only)); refine bxe 1 #[.slice A0_0 l0_0.length c0_0, .slice A0_1 l0_1.length c0_1] 32 ?_; intro gb425 hg w3 BK425 hb; have GW425 := As.mk (gs w hg); replace HB := bs w hb; clear hb hg; obtain ⟨y4a, y4b, v4a, v4b⟩ := cl2 BK425.out))
 (try simp only [pk])
 go_cut [35] (fun v35 wc => ∃ (kq : Nat) (x35_1 : Bool), v35 = .bool x35_1 ∧ As (impl_ProgramOk.j0 kq (l0_0.length : Int) x35_1 l0_0 l0_1 = some r) ∧ As (kq ≤ k) ∧ As (wc.heap[gb425]? = some (.cells #[(.slice A0_0 l0_0.length c0_0), (.slice A0_1 l0_1.length c0_1)] 32 (0, 0))) ∧ As (Below w.heap.size w wc))
 case first =>
  have H := HC2.out; clear HC2; replace H := bo H; obtain ⟨t426, A5, H⟩ := H
  by_cases c6 : t426 = true
  rotate_left
  ·
   replace c6 := Bool.eq_false_iff.mpr c6; subst c6; rw [if_neg ft] at H; have H' := As.mk H; clear H
   go_wp2_with (first | ((with_reducible refine gate_callee (f := 36) rfl ?_); refine goL (some 19) Tryz.func36 #[.int .i64 (l0_0.length : Int), .int .i64 1, .int .i64 300] ?_; (with_reducible refine (impl_in.calls (l0_0.length : Int) 1 300 false _ A5.out).mono ?_); rintro e w' ⟨rfl, ⟨nd, rfl⟩⟩; refine ⟨_, rfl, ?_⟩))
   go_meet
   case rel => exact ⟨_, (true), (by first | rfl | (simp; done) | (simp [*]; done)), H', ⟨by first | omega | exact Nat.le_refl _⟩, ⟨bx BK425.out⟩, ⟨be w⟩⟩
  subst c6; rw [if_pos rfl] at H; replace H := bo H; obtain ⟨t427, A7, H⟩ := H
  by_cases c8 : t427 = true
  rotate_left
  ·
   replace c8 := Bool.eq_false_iff.mpr c8; subst c8; rw [if_neg ft] at H; have H' := As.mk H; clear H
   go_wp2_with (first | ((with_reducible refine gate_callee (f := 36) rfl ?_); refine goL (some 19) Tryz.func36 #[.int .i64 (l0_0.length : Int), .int .i64 1, .int .i64 300] ?_; (with_reducible refine (impl_in.calls (l0_0.length : Int) 1 300 true _ A5.out).mono ?_); rintro e w' ⟨rfl, ⟨nd, rfl⟩⟩; refine ⟨_, rfl, ?_⟩; obtain ⟨y12a, y12b, v12a, v12b⟩ := cl2 BK425.out) | (go_at_call 36; (with_reducible refine (impl_in.calls (l0_1.length : Int) 1 8 false _ A7.out).mono ?_); rintro e w' ⟨rfl, ⟨nd, rfl⟩⟩))
   go_meet
   case rel => exact ⟨_, (true), (by first | rfl | (simp; done) | (simp [*]; done)), H', ⟨by first | omega | exact Nat.le_refl _⟩, ⟨bx BK425.out⟩, ⟨be w⟩⟩
  subst c8; rw [if_pos rfl] at H; replace H := bo H; obtain ⟨t428, A9, H⟩ := H; have H' := As.mk H; clear H
  go_wp2_with (first | ((with_reducible refine gate_callee (f := 36) rfl ?_); refine goL (some 19) Tryz.func36 #[.int .i64 (l0_0.length : Int), .int .i64 1, .int .i64 300] ?_; (with_reducible refine (impl_in.calls (l0_0.length : Int) 1 300 true _ A5.out).mono ?_); rintro e w' ⟨rfl, ⟨nd, rfl⟩⟩; refine ⟨_, rfl, ?_⟩; obtain ⟨y10a, y10b, v10a, v10b⟩ := cl2 BK425.out) | (go_at_call 36; (with_reducible refine (impl_in.calls (l0_1.length : Int) 1 8 true _ A7.out).mono ?_); rintro e w' ⟨rfl, ⟨nd, rfl⟩⟩) | (go_at_call 46; (try simp only [Go.IntWalk.i64_left]); (with_reducible refine (impl_DeepOf.calls k _ _ l0_0 (wrap64 ((l0_0.length : Int) - 1)) t428 _ (cb HR0_0) HC0_0.out A9.out).mono ?_); rintro e w11 ⟨rfl, hb⟩; replace BK425 := bb BK425 hb; replace HB := bs w hb; (try clear hb)))
  go_meet
  case rel => exact ⟨_, ((t428 == 0)), (by first | rfl | (simp; done) | (simp [*]; done)), H', ⟨by first | omega | exact Nat.le_refl _⟩, ⟨bx BK425.out⟩, ⟨be w⟩⟩
 case rest =>
  clear HC2; (try clear y4a); (try clear y4b); (try clear v4a); (try clear v4b); obtain ⟨kq, x35_1, rfl, HA, HJ1, BK425, HB⟩ := hcut
  cases kq with
  | zero => exact absurd HA.out (by simp [impl_ProgramOk.j0])
  | succ kj1 =>
   have H := HA.out; clear HA
   simp only [impl_ProgramOk.j0] at H
   by_cases c13 : x35_1 = true
   ·
    subst c13; rw [if_pos rfl] at H; obtain rfl := sj H
    go_wp2
    go_ret
    exact ⟨ez, be w⟩
   replace c13 := Bool.eq_false_iff.mpr c13; subst c13; rw [if_neg ft] at H
   by_cases c14 : 0 ≤ (l0_0.length : Int)
   rotate_left; · rw [if_neg c14] at H; exact absurd H (by simp)

   rw [if_pos c14] at H; have c14b0 := eq_true c14; have c14b1 := decide_eq_true c14; clear c14; replace H := ie H; obtain ⟨c15b0, c15b1, H⟩ := H
   obtain ⟨y429, hy429⟩ : ∃ y_ : List Int, y_ = (List.replicate ((l0_0.length : Int) : Int).toNat 0) := ⟨_, rfl⟩
   replace H : (impl_ProgramOk.l0 kj1 y429 l0_0 (l0_0.length : Int) 0 l0_0 l0_1) = some r := by first | (rw [hy429]; with_reducible exact H) | (have H2_ := (Option.bind_some _ _).symm.trans H; rw [hy429]; with_reducible exact H2_) | (have H2_ := (Option.bind_some _ _).symm.trans H; with_reducible exact H2_) | with_reducible exact H | (rw [hy429]; exact H) | exact H
   have Ny429 := As.mk hy429; clear hy429; have H' := As.mk H; clear H
   go_wp2_with (first | ((with_reducible refine gate_dst (N := 37) rfl ?_); (try (refine gate_guard (by rfl) ?_; dsimp only)); refine Kd.R_make (Kd.int .i64) _ 3 rfl (N := 37) rfl 45 _ _ rfl (l0_0.length : Int) rfl rfl Tryz.underlying45 (.int .i64 0) 8 info3 rfl (by decide) (by omega) 0 (ok := fun _ => True) (okp := fun _ => True) rfl (fun _ hk => hk) trivial (of_decide_eq_true (by first | (with_reducible assumption) | assumption)) (Nat.le_trans (Nat.mul_le_mul_right _ (of_decide_eq_true (by first | (with_reducible assumption) | assumption) : (l0_0.length : Int).toNat ≤ 35184372088832)) (by omega)) (Below.refl _ _) (Nat.le_refl _) ?_; intro v430 w16 ho17 hb hg_ hnew_; clear hg_ hnew_; (first | rw [← Ny429.out] at ho17 | (simp only [Int.reduceToNat] at ho17; rw [← Ny429.out] at ho17)); have HO431 := As.mk (Kd.R_lower ho17 (below_size (be w))); replace BK425 := bb BK425 hb; replace HB := bs w hb; clear hb ho17; obtain ⟨y18a, y18b, v18a, v18b⟩ := cl2 BK425.out))
   go_loopg [41] kj1 (fun kq v41 w' => ∃ (x4_2 : List Int) (x41_2 : Int), v41 = .int .i64 x41_2 ∧ As (impl_ProgramOk.l0 kq x4_2 l0_0 (l0_0.length : Int) x41_2 l0_0 l0_1 = some r) ∧ As (kq ≤ kj1) ∧ As (Kd.R (Kd.int .i64) 3 w' w.heap.size (fun _ => True) v430 x4_2) ∧ As (w'.heap[gb425]? = some (.cells #[(.slice A0_0 l0_0.length c0_0), (.slice A0_1 l0_1.length c0_1)] 32 (0, 0))) ∧ As (Below w.heap.size w w'))
   case atStart => exact ⟨(y429), (0), (by first | rfl | (simp; done) | (simp [*]; done)), H', ⟨Nat.le_refl _⟩, ⟨by (with_reducible repeat (first | apply Kd.R_alloc | apply Kd.R_drewN | apply Kd.R_drew)); exact HO431.out⟩, ⟨bx BK425.out⟩, ⟨be w⟩⟩
   case round =>
    clear H'; (try clear c13); (try clear c14); (try clear c14b0); (try clear c14b1); (try clear c15); (try clear c15b0); (try clear c15b1); (try clear y18a); (try clear y18b); (try clear y4a); (try clear y4b); (try clear v18a); (try clear v18b); (try clear v4a); (try clear v4b); obtain ⟨x4_2, x41_2, rfl, HA, HK2, HO_4, BK425, HB⟩ := hrel
    cases gk with
    | zero => exact absurd HA.out (by simp [impl_ProgramOk.l0])
    | succ k2 =>
     have H := HA.out; clear HA
     simp only [impl_ProgramOk.l0] at H
     by_cases c19 : x41_2 < (l0_0.length : Int)
     ·
      rw [if_pos c19] at H; have c19b0 := decide_eq_true c19; clear c19; replace H := ia H; obtain ⟨c20b0, H⟩ := H; replace H := ia H; obtain ⟨c21b0, H⟩ := H; have H' := As.mk H; clear H; obtain ⟨ad432, A432_3, c432_3, e432, p432, q432, x432a, x432b, x432c, x432d, HC432_3, HR432_3⟩ := bt_T62 HB.out HR0_0.out x41_2 od od; cases e432
      go_wp2_with (first | ((with_reducible refine gate_dst (N := 6) rfl ?_); (try (refine gate_guard (by rfl) ?_; dsimp only)); refine bxe 6 #[.int .i64 0, .int .i64 0, .string (⟨#[]⟩ : ByteArray), .slice none 0 0] 62 ?_; intro gb433 hg w22 BK433 hb; replace HO_4 := As.mk (Kd.R_below (by (with_reducible repeat (first | apply Kd.R_alloc | apply Kd.R_drewN | apply Kd.R_drew)); exact HO_4.out) hb); have GW433 := As.mk (gs w hg); replace HB := bs w hb; have NB425_433 := As.mk (nl hg (bx BK425.out)); have NB433_425 := As.mk (ng hg (bx BK425.out)); replace BK425 := bb BK425 hb; clear hb hg; have hnb23 := NB433_425.out; have hnc23 := NB425_433.out; obtain ⟨y24a, y24b, y24c, y24d, v24a, v24b, v24c, v24d⟩ := cl4 BK433.out))
      go_loopg [48] k2 (fun kq v48 w' => ∃ (x4_3 : List Int) (x48_3 : Int), v48 = .int .i64 x48_3 ∧ As (impl_ProgramOk.l1 kq x4_3 l0_0 (l0_0.length : Int) x41_2 ((rd_T62 l0_0 x41_2).f3) (((rd_T62 l0_0 x41_2).f3).length : Int) x48_3 l0_0 l0_1 = some r) ∧ As (kq ≤ k2) ∧ As (Kd.R (Kd.int .i64) 3 w' w.heap.size (fun _ => True) v430 x4_3) ∧ As (w'.heap[gb425]? = some (.cells #[(.slice (some ad432) l0_0.length c0_0), (.slice A0_1 l0_1.length c0_1)] 32 (0, 0))) ∧ As (w'.heap[gb433]? = some (.cells #[.int .i64 ((rd_T62 l0_0 x41_2).f0), .int .i64 ((rd_T62 l0_0 x41_2).f1), .string ((rd_T62 l0_0 x41_2).f2), (.slice A432_3 ((rd_T62 l0_0 x41_2).f3).length c432_3)] 62 (0, 0))) ∧ As (Below w.heap.size w w'))
      case atStart => exact ⟨(x4_2), (0), (by first | rfl | (simp; done) | (simp [*]; done)), H', ⟨Nat.le_refl _⟩, ⟨by (with_reducible repeat (first | apply Kd.R_alloc | apply Kd.R_drewN | apply Kd.R_drew)); exact Kd.R_mono (Kd.R_far (p := ⟨gb433, 3, none⟩) (Kd.R_far (p := ⟨gb433, 2, none⟩) (Kd.R_far (p := ⟨gb433, 1, none⟩) (Kd.R_far (p := ⟨gb433, 0, none⟩) (Kd.R_types HO_4.out BK433.out (by decide)) (fun _ hk => hk.2) (.int .i64 ((rd_T62 l0_0 x41_2).f0))) (fun _ hk => hk.2) (.int .i64 ((rd_T62 l0_0 x41_2).f1))) (fun _ hk => hk.2) (.string ((rd_T62 l0_0 x41_2).f2))) (fun _ hk => hk.2) (.slice A432_3 ((rd_T62 l0_0 x41_2).f3).length c432_3)) (fun _ hk => trivial)⟩, ⟨by refine pl ?_; refine blk_far ?_ NB425_433.out _; refine pl ?_; refine blk_far ?_ NB425_433.out _; refine pl ?_; refine blk_far ?_ NB425_433.out _; refine pl ?_; refine blk_far ?_ NB425_433.out _; exact bx BK425.out⟩, ⟨by exact pl (bp4 (bx BK433.out))⟩, ⟨be w⟩⟩
      case round =>
       clear H'; (try clear c13); (try clear c14); (try clear c14b0); (try clear c14b1); (try clear c15); (try clear c15b0); (try clear c15b1); (try clear c19); (try clear c19b0); (try clear c20); (try clear c20b0); (try clear c21); (try clear c21b0); (try clear y18a); (try clear y18b); (try clear y24a); (try clear y24b); (try clear y24c); (try clear y24d); (try clear y4a); (try clear y4b); (try clear v18a); (try clear v18b); (try clear v24a); (try clear v24b); (try clear v24c); (try clear v24d); (try clear v4a); (try clear v4b); (try clear x432a); (try clear x432b); (try clear x432c); (try clear x432d); (try clear p432); (try clear q432); obtain ⟨x4_3, x48_3, rfl, HA, HK3, HO_4, BK425, BK433, HB⟩ := hrel
       cases gk with
       | zero => exact absurd HA.out (by simp [impl_ProgramOk.l1])
       | succ k3 =>
        have H := HA.out; clear HA
        simp only [impl_ProgramOk.l1] at H
        by_cases c25 : x48_3 < (((rd_T62 l0_0 x41_2).f3).length : Int)
        rotate_left
        ·
         rw [if_neg c25] at H; have c25b0 := decide_eq_false c25; clear c25; have H' := As.mk H; clear H
         go_wp2
         go_roundg k3
         case measure => have := HJ1.out; have := HK2.out; have := HK3.out; omega
         case rel => exact ⟨(x4_3), (wrap64 (x41_2 + 1)), (by first | rfl | (simp; done) | (simp [*]; done)), H', ⟨by have := HJ1.out; have := HK2.out; have := HK3.out; omega⟩, ⟨by (with_reducible repeat (first | apply Kd.R_alloc | apply Kd.R_drewN | apply Kd.R_drew)); exact HO_4.out⟩, ⟨bx BK425.out⟩, ⟨be w⟩⟩
        rw [if_pos c25] at H; have c25b0 := decide_eq_true c25; clear c25; replace H := ia H; obtain ⟨c26b0, H⟩ := H; replace H := ia H; obtain ⟨c27b0, H⟩ := H; replace H := ia H; obtain ⟨c28b0, H⟩ := H; replace H := ia H; obtain ⟨c29b0, H⟩ := H
        obtain ⟨y436, hy436⟩ : ∃ y_ : List Int, y_ = (x4_3.set ((rd ((rd_T62 l0_0 x41_2).f3) x48_3) : Int).toNat (wrap64 ((rd x4_3 (rd ((rd_T62 l0_0 x41_2).f3) x48_3)) + 1))) := ⟨_, rfl⟩
        replace H : (impl_ProgramOk.l1 k3 y436 l0_0 (l0_0.length : Int) x41_2 ((rd_T62 l0_0 x41_2).f3) (((rd_T62 l0_0 x41_2).f3).length : Int) (wrap64 (x48_3 + 1)) l0_0 l0_1) = some r := by first | (rw [hy436]; with_reducible exact H) | (have H2_ := (Option.bind_some _ _).symm.trans H; rw [hy436]; with_reducible exact H2_) | (have H2_ := (Option.bind_some _ _).symm.trans H; with_reducible exact H2_) | with_reducible exact H | (rw [hy436]; exact H) | exact H
        have Ny436 := As.mk hy436; clear hy436; have H' := As.mk H; clear H; have p434 : 0 ≤ (x48_3 : Int) := od; have q434 : x48_3 < (((rd_T62 l0_0 x41_2).f3).length : Int) := od; obtain ⟨ad434, e434, x434a⟩ := Kd.at_int HR432_3.out x48_3 p434 q434; cases e434; replace x434a := ce HB.out x434a; replace p434 := eq_true p434; replace q434 := eq_true q434; obtain ⟨Ao31, co31, eo31⟩ := Kd.R_slice HO_4.out; subst eo31; have p435 : 0 ≤ ((rd ((rd_T62 l0_0 x41_2).f3) x48_3) : Int) := od; have q435 : (rd ((rd_T62 l0_0 x41_2).f3) x48_3) < (x4_3.length : Int) := od; obtain ⟨ad435, e435, x435a⟩ := Kd.at_int (Kd.R_reads' HO_4.out).2.2 (rd ((rd_T62 l0_0 x41_2).f3) x48_3) p435 q435; cases e435; replace p435 := eq_true p435; replace q435 := eq_true q435; have p30 : 0 ≤ ((rd ((rd_T62 l0_0 x41_2).f3) x48_3) : Int) := od; have q30 : ((rd ((rd_T62 l0_0 x41_2).f3) x48_3) : Int) < ((x4_3.length : Int) : Int) := od; obtain ⟨go30, co30, eo30, gb30, gl30, cl30, HG30⟩ := Kd.R_form HO_4.out (by omega)
        (first | cases eo30 | (injection eo30 with ea_ en_ ec_; (first | subst ea_ | (injection ea_ with ea_; subst ea_)); subst ec_; clear en_))
        have GB30 := As.mk gb30; have GG30 := As.mk HG30; clear gb30 gl30 HG30
        (first | simp only [add_plain] at x435a | skip)
        obtain ⟨x30a, f30a⟩ := Kd.R_celln 0 HO_4.out ((rd ((rd_T62 l0_0 x41_2).f3) x48_3) : Int) p30 q30; replace p30 := eq_true p30; replace q30 := eq_true q30; have HP32 := Kd.R_putg HO_4.out ((rd ((rd_T62 l0_0 x41_2).f3) x48_3) : Int) (wrap64 ((rd x4_3 (rd ((rd_T62 l0_0 x41_2).f3) x48_3)) + 1))
        go_wp2_with (first | ((with_reducible refine gate_store (t := 3) (p := 57) rfl ?_); refine store_event (t := 3) (p := 57) (v := ?vo_w33) (w1 := (wr.setCell ⟨go30, ((rd ((rd_T62 l0_0 x41_2).f3) x48_3) : Int).toNat, none⟩ (.int .i64 (wrap64 ((rd x4_3 (rd ((rd_T62 l0_0 x41_2).f3) x48_3)) + 1))))) ?hg ?ho ?hn ?hr ?_; (case ho => rfl); (case hg => rfl); (case hn => rfl); (case hr => first | (go_simp; done) | (go_simp; rfl)); intro w33 hw; have hg : wr.grownBy w33 (some go30) := (by rw [hw]; exact HP32.2); have hp_ : Kd.R (Kd.int .i64) 3 w33 w.heap.size (fun _ => True) (.slice (some ⟨go30, 0, none⟩) x4_3.length co31) y436 := (by rw [hw, Ny436.out]; exact HP32.1); clear HP32; replace BK425 := As.mk (blk_grown (g := gb425) (o := .cells #[.slice (some ad432) l0_0.length c0_0, .slice A0_1 l0_1.length c0_1] 32 (0, 0)) (bx BK425.out) hg (Kd.R_ne HO_4.out BK425.out (by decide))); replace BK433 := As.mk (blk_grown (g := gb433) (o := .cells #[.int .i64 ((rd_T62 l0_0 x41_2).f0), .int .i64 ((rd_T62 l0_0 x41_2).f1), .string ((rd_T62 l0_0 x41_2).f2), .slice (some ad434) ((rd_T62 l0_0 x41_2).f3).length c432_3] 62 (0, 0)) (bx BK433.out) hg (Kd.R_ne HO_4.out BK433.out (by decide))); replace HO_4 := As.mk (hp_); replace HB := As.mk ((by rw [hw]; exact below_set (HB.out) GB30.out : Below w.heap.size w w33)); clear hg hw hp_))
        go_roundg k3
        case measure => have := HJ1.out; have := HK2.out; have := HK3.out; omega
        case rel => exact ⟨(y436), (wrap64 (x48_3 + 1)), (by first | rfl | (simp; done) | (simp [*]; done)), H', ⟨by have := HJ1.out; have := HK2.out; have := HK3.out; omega⟩, ⟨by (with_reducible repeat (first | apply Kd.R_alloc | apply Kd.R_drewN | apply Kd.R_drew)); exact HO_4.out⟩, ⟨bx BK425.out⟩, ⟨bx BK433.out⟩, ⟨be w⟩⟩
     rw [if_neg c19] at H; have c19b0 := decide_eq_false c19; clear c19; have H' := As.mk H; clear H; obtain ⟨y34a, y34b, v34a, v34b⟩ := cl2 BK425.out
     go_wp2
     go_loopg [63] k2 (fun kq v63 w' => ∃ (x4_3 : List Int) (x63_3 : Int), v63 = .int .i64 x63_3 ∧ As (impl_ProgramOk.l2 kq x4_3 l0_1 (l0_1.length : Int) x63_3 l0_0 l0_1 = some r) ∧ As (kq ≤ k2) ∧ As (Kd.R (Kd.int .i64) 3 w' w.heap.size (fun _ => True) v430 x4_3) ∧ As (w'.heap[gb425]? = some (.cells #[(.slice A0_0 l0_0.length c0_0), (.slice A0_1 l0_1.length c0_1)] 32 (0, 0))) ∧ As (Below w.heap.size w w'))
     case atStart => exact ⟨(x4_2), (0), (by first | rfl | (simp; done) | (simp [*]; done)), H', ⟨Nat.le_refl _⟩, ⟨by (with_reducible repeat (first | apply Kd.R_alloc | apply Kd.R_drewN | apply Kd.R_drew)); exact HO_4.out⟩, ⟨bx BK425.out⟩, ⟨be w⟩⟩
     case round =>
      clear H'; (try clear c13); (try clear c14); (try clear c14b0); (try clear c14b1); (try clear c15); (try clear c15b0); (try clear c15b1); (try clear c19); (try clear c19b0); (try clear y18a); (try clear y18b); (try clear y34a); (try clear y34b); (try clear y4a); (try clear y4b); (try clear v18a); (try clear v18b); (try clear v34a); (try clear v34b); (try clear v4a); (try clear v4b); obtain ⟨x4_3, x63_3, rfl, HA, HK3, HO_4, BK425, HB⟩ := hrel
      cases gk with
      | zero => exact absurd HA.out (by simp [impl_ProgramOk.l2])
      | succ k3 =>
       have H := HA.out; clear HA
       simp only [impl_ProgramOk.l2] at H
       by_cases c35 : x63_3 < (l0_1.length : Int)
       rotate_left
       ·
        rw [if_neg c35] at H; have c35b0 := decide_eq_false c35; clear c35; have H' := As.mk H; clear H; obtain ⟨Ao74, co74, eo74⟩ := Kd.R_slice HO_4.out; subst eo74
        go_wp2
        go_loopg [104] k3 (fun kq v104 w' => ∃ (x104_4 : Int), v104 = .int .i64 x104_4 ∧ As (impl_ProgramOk.l4 kq x4_3 (x4_3.length : Int) x104_4 = some r) ∧ As (kq ≤ k3) ∧ As (Kd.R (Kd.int .i64) 3 w' w.heap.size (fun _ => True) (.slice Ao74 x4_3.length co74) x4_3) ∧ As (w'.heap[gb425]? = some (.cells #[(.slice A0_0 l0_0.length c0_0), (.slice A0_1 l0_1.length c0_1)] 32 (0, 0))) ∧ As (Below w.heap.size w w'))
        case atStart => exact ⟨(0), (by first | rfl | (simp; done) | (simp [*]; done)), H', ⟨Nat.le_refl _⟩, ⟨by (with_reducible repeat (first | apply Kd.R_alloc | apply Kd.R_drewN | apply Kd.R_drew)); exact HO_4.out⟩, ⟨bx BK425.out⟩, ⟨be w⟩⟩
        case round =>
         clear H'; (try clear c13); (try clear c14); (try clear c14b0); (try clear c14b1); (try clear c15); (try clear c15b0); (try clear c15b1); (try clear c19); (try clear c19b0); (try clear c35); (try clear c35b0); (try clear y18a); (try clear y18b); (try clear y34a); (try clear y34b); (try clear y4a); (try clear y4b); (try clear v18a); (try clear v18b); (try clear v34a); (try clear v34b); (try clear v4a); (try clear v4b); obtain ⟨x104_4, rfl, HA, HK4, HO_102, BK425, HB⟩ := hrel
         cases gk with
         | zero => exact absurd HA.out (by simp [impl_ProgramOk.l4])
         | succ k4 =>
          have H := HA.out; clear HA
          simp only [impl_ProgramOk.l4] at H
          by_cases c75 : x104_4 < (x4_3.length : Int)
          rotate_left
          ·
           rw [if_neg c75] at H; have c75b0 := decide_eq_false c75; clear c75; obtain rfl := sj H
           go_wp2
           go_ret
           exact ⟨ez, be w⟩
          rw [if_pos c75] at H; have c75b0 := decide_eq_true c75; clear c75; replace H := ia H; obtain ⟨c76b0, H⟩ := H; replace H := ia H; obtain ⟨c77b0, H⟩ := H
          by_cases c78 : (rd x4_3 x104_4) = 1
          ·
           rw [if_pos c78] at H; have c78b0 : ((rd x4_3 x104_4) == 1) = true := beq_iff_eq.mpr c78; have c78b1 : ((rd x4_3 x104_4) != 1) = false := bne_eq_false_iff_eq.mpr c78; clear c78; have H' := As.mk H; clear H; have p447 : 0 ≤ (x104_4 : Int) := od; have q447 : x104_4 < (x4_3.length : Int) := od; obtain ⟨ad447, e447, x447a⟩ := Kd.at_int (Kd.R_reads' HO_102.out).2.2 x104_4 p447 q447; cases e447; replace p447 := eq_true p447; replace q447 := eq_true q447
           go_wp2
           go_roundg k4
           case measure => have := HJ1.out; have := HK2.out; have := HK3.out; have := HK4.out; omega
           case rel => exact ⟨(wrap64 (x104_4 + 1)), (by first | rfl | (simp; done) | (simp [*]; done)), H', ⟨by have := HJ1.out; have := HK2.out; have := HK3.out; have := HK4.out; omega⟩, ⟨by (with_reducible repeat (first | apply Kd.R_alloc | apply Kd.R_drewN | apply Kd.R_drew)); exact HO_102.out⟩, ⟨bx BK425.out⟩, ⟨be w⟩⟩
          rw [if_neg c78] at H; have c78b0 : ((rd x4_3 x104_4) == 1) = false := beq_eq_false_iff_ne.mpr c78; have c78b1 : ((rd x4_3 x104_4) != 1) = true := bne_iff_ne.mpr c78
          by_cases c79 : (rd x4_3 x104_4) = (-1)
          rotate_left
          ·
           rw [if_neg c79] at H; have c79b0 : ((rd x4_3 x104_4) == (-1)) = false := beq_eq_false_iff_ne.mpr c79; have c79b1 : ((rd x4_3 x104_4) != (-1)) = true := bne_iff_ne.mpr c79; obtain rfl := sj H; have p447 : 0 ≤ (x104_4 : Int) := od; have q447 : x104_4 < (x4_3.length : Int) := od; obtain ⟨ad447, e447, x447a⟩ := Kd.at_int (Kd.R_reads' HO_102.out).2.2 x104_4 p447 q447; cases e447; replace p447 := eq_true p447; replace q447 := eq_true q447
           go_wp2
           go_ret
           exact ⟨ez, be w⟩
          rw [if_pos c79] at H; have c79b0 : ((rd x4_3 x104_4) == (-1)) = true := beq_iff_eq.mpr c79; have c79b1 : ((rd x4_3 x104_4) != (-1)) = false := bne_eq_false_iff_eq.mpr c79; clear c79; have H' := As.mk H; clear H; have p447 : 0 ≤ (x104_4 : Int) := od; have q447 : x104_4 < (x4_3.length : Int) := od; obtain ⟨ad447, e447, x447a⟩ := Kd.at_int (Kd.R_reads' HO_102.out).2.2 x104_4 p447 q447; cases e447; replace p447 := eq_true p447; replace q447 := eq_true q447
          go_wp2
          go_roundg k4
          case measure => have := HJ1.out; have := HK2.out; have := HK3.out; have := HK4.out; omega
          case rel => exact ⟨(wrap64 (x104_4 + 1)), (by first | rfl | (simp; done) | (simp [*]; done)), H', ⟨by have := HJ1.out; have := HK2.out; have := HK3.out; have := HK4.out; omega⟩, ⟨by (with_reducible repeat (first | apply Kd.R_alloc | apply Kd.R_drewN | apply Kd.R_drew)); exact HO_102.out⟩, ⟨bx BK425.out⟩, ⟨be w⟩⟩
       rw [if_pos c35] at H; have c35b0 := decide_eq_true c35; clear c35; replace H := ia H; obtain ⟨c36b0, H⟩ := H; replace H := ia H; obtain ⟨c37b0, H⟩ := H; have HC38 := As.mk H; clear H; obtain ⟨ad437, A437_1, c437_1, e437, p437, q437, x437a, x437b, x437c, x437d, x437e, HC437_1, HR437_1⟩ := bt_T56 HB.out HR0_1.out x63_3 od od; cases e437
       go_upto_region 17 with (first | ((with_reducible refine gate_dst (N := 10) rfl ?_); (try (refine gate_guard (by rfl) ?_; dsimp only)); refine bxe 10 #[.string (⟨#[]⟩ : ByteArray), .slice none 0 0, .int .i64 0, .int .i64 0, .int .i64 0] 56 ?_; intro gb438 hg w39 BK438 hb; replace HO_4 := As.mk (Kd.R_below (by (with_reducible repeat (first | apply Kd.R_alloc | apply Kd.R_drewN | apply Kd.R_drew)); exact HO_4.out) hb); have GW438 := As.mk (gs w hg); replace HB := bs w hb; have NB425_438 := As.mk (nl hg (bx BK425.out)); have NB438_425 := As.mk (ng hg (bx BK425.out)); replace BK425 := bb BK425 hb; clear hb hg; have hnb40 := NB438_425.out; have hnc40 := NB425_438.out; obtain ⟨y41a, y41b, y41c, y41d, y41e, v41a, v41b, v41c, v41d, v41e⟩ := cl5 BK438.out))
       (try simp only [pk])
       go_cut [79] (fun v79 wc => ∃ (kq : Nat) (x79_37 : Bool), v79 = .bool x79_37 ∧ As (impl_ProgramOk.j4 kq x4_3 l0_1 (l0_1.length : Int) x63_3 x79_37 l0_0 l0_1 ((rd_T56 l0_1 x63_3).f0) ((rd_T56 l0_1 x63_3).f1) ((rd_T56 l0_1 x63_3).f2) ((rd_T56 l0_1 x63_3).f3) ((rd_T56 l0_1 x63_3).f4) = some r) ∧ As (kq ≤ k3) ∧ As (Kd.R (Kd.int .i64) 3 wc w.heap.size (fun _ => True) v430 x4_3) ∧ As (wc.heap[gb425]? = some (.cells #[(.slice A0_0 l0_0.length c0_0), (.slice (some ad437) l0_1.length c0_1)] 32 (0, 0))) ∧ As (wc.heap[gb438]? = some (.cells #[.string ((rd_T56 l0_1 x63_3).f0), (.slice A437_1 ((rd_T56 l0_1 x63_3).f1).length c437_1), .int .i64 ((rd_T56 l0_1 x63_3).f2), .int .i64 ((rd_T56 l0_1 x63_3).f3), .int .i64 ((rd_T56 l0_1 x63_3).f4)] 56 (0, 0))) ∧ As (Below w.heap.size w wc))
       case first =>
        have H := HC38.out; clear HC38; replace H := bo H; obtain ⟨t439, A42, H⟩ := H
        by_cases c43 : t439 = true
        rotate_left
        ·
         replace c43 := Bool.eq_false_iff.mpr c43; subst c43; rw [if_neg ft] at H; have H' := As.mk H; clear H; have hnb52 := NB425_438.out; have hnc52 := NB438_425.out; obtain ⟨y53a, y53b, v53a, v53b⟩ := cl2 BK425.out; obtain ⟨y54a, y54b, y54c, y54d, y54e, v54a, v54b, v54c, v54d, v54e⟩ := cl5 BK438.out
         go_wp2_with (first | ((with_reducible refine gate_callee (f := 81) rfl ?_); refine goL (some 70) Tryz.func81 #[.agg #[.slice A0_0 l0_0.length c0_0, .slice (some ad437) l0_1.length c0_1], .agg #[.string ((rd_T56 l0_1 x63_3).f0), .slice A437_1 ((rd_T56 l0_1 x63_3).f1).length c437_1, .int .i64 ((rd_T56 l0_1 x63_3).f2), .int .i64 ((rd_T56 l0_1 x63_3).f3), .int .i64 ((rd_T56 l0_1 x63_3).f4)]] ?_; (with_reducible refine (impl_fnOk.calls k3 _ _ l0_0 _ _ l0_1 ((rd_T56 l0_1 x63_3).f0) _ _ ((rd_T56 l0_1 x63_3).f1) ((rd_T56 l0_1 x63_3).f2) ((rd_T56 l0_1 x63_3).f3) ((rd_T56 l0_1 x63_3).f4) false _ (cb HR0_0) HC0_0.out (cb HR0_1) HC0_1.out (cb HR437_1) HC437_1.out A42.out).mono ?_); rintro e w55 ⟨rfl, hb⟩; refine ⟨_, rfl, ?_⟩; replace HO_4 := As.mk (Kd.R_below (by (with_reducible repeat (first | apply Kd.R_alloc | apply Kd.R_drewN | apply Kd.R_drew)); (have z_ := R_far5 HO_4.out BK438.out (by decide)); with_reducible exact z_ _ _ _ _ _) hb); replace BK425 := As.mk (blk_below (g := gb425) (o := .cells #[.slice A0_0 l0_0.length c0_0, .slice (some ad437) l0_1.length c0_1] 32 (0, 0)) (by refine pl ?_; refine blk_far ?_ NB425_438.out _; refine pl ?_; refine blk_far ?_ NB425_438.out _; refine pl ?_; refine blk_far ?_ NB425_438.out _; refine pl ?_; refine blk_far ?_ NB425_438.out _; refine pl ?_; refine blk_far ?_ NB425_438.out _; exact bx BK425.out) hb); replace BK438 := As.mk (blk_below (g := gb438) (o := .cells #[.string ((rd_T56 l0_1 x63_3).f0), .slice A437_1 ((rd_T56 l0_1 x63_3).f1).length c437_1, .int .i64 ((rd_T56 l0_1 x63_3).f2), .int .i64 ((rd_T56 l0_1 x63_3).f3), .int .i64 ((rd_T56 l0_1 x63_3).f4)] 56 (0, 0)) (by exact pl (bp5 (bx BK438.out))) hb); replace HB := bs w hb; (try clear hb)))
         go_meet
         case rel => exact ⟨_, (true), (by first | rfl | (simp; done) | (simp [*]; done)), H', ⟨by have := HJ1.out; have := HK2.out; have := HK3.out; first | omega | exact Nat.le_refl _⟩, ⟨by (with_reducible repeat (first | apply Kd.R_alloc | apply Kd.R_drewN | apply Kd.R_drew)); exact HO_4.out⟩, ⟨bx BK425.out⟩, ⟨bx BK438.out⟩, ⟨be w⟩⟩
        subst c43; rw [if_pos rfl] at H; replace H := bo H; obtain ⟨t440, A44, H⟩ := H; have H' := As.mk H; clear H; have hnb45 := NB425_438.out; have hnc45 := NB438_425.out; obtain ⟨y46a, y46b, v46a, v46b⟩ := cl2 BK425.out; obtain ⟨y47a, y47b, y47c, y47d, y47e, v47a, v47b, v47c, v47d, v47e⟩ := cl5 BK438.out
        go_wp2_with (first | ((with_reducible refine gate_callee (f := 81) rfl ?_); refine goL (some 70) Tryz.func81 #[.agg #[.slice A0_0 l0_0.length c0_0, .slice (some ad437) l0_1.length c0_1], .agg #[.string ((rd_T56 l0_1 x63_3).f0), .slice A437_1 ((rd_T56 l0_1 x63_3).f1).length c437_1, .int .i64 ((rd_T56 l0_1 x63_3).f2), .int .i64 ((rd_T56 l0_1 x63_3).f3), .int .i64 ((rd_T56 l0_1 x63_3).f4)]] ?_; (with_reducible refine (impl_fnOk.calls k3 _ _ l0_0 _ _ l0_1 ((rd_T56 l0_1 x63_3).f0) _ _ ((rd_T56 l0_1 x63_3).f1) ((rd_T56 l0_1 x63_3).f2) ((rd_T56 l0_1 x63_3).f3) ((rd_T56 l0_1 x63_3).f4) true _ (cb HR0_0) HC0_0.out (cb HR0_1) HC0_1.out (cb HR437_1) HC437_1.out A42.out).mono ?_); rintro e w48 ⟨rfl, hb⟩; refine ⟨_, rfl, ?_⟩; replace HO_4 := As.mk (Kd.R_below (by (with_reducible repeat (first | apply Kd.R_alloc | apply Kd.R_drewN | apply Kd.R_drew)); (have z_ := R_far5 HO_4.out BK438.out (by decide)); with_reducible exact z_ _ _ _ _ _) hb); replace BK425 := As.mk (blk_below (g := gb425) (o := .cells #[.slice A0_0 l0_0.length c0_0, .slice (some ad437) l0_1.length c0_1] 32 (0, 0)) (by refine pl ?_; refine blk_far ?_ NB425_438.out _; refine pl ?_; refine blk_far ?_ NB425_438.out _; refine pl ?_; refine blk_far ?_ NB425_438.out _; refine pl ?_; refine blk_far ?_ NB425_438.out _; refine pl ?_; refine blk_far ?_ NB425_438.out _; exact bx BK425.out) hb); replace BK438 := As.mk (blk_below (g := gb438) (o := .cells #[.string ((rd_T56 l0_1 x63_3).f0), .slice A437_1 ((rd_T56 l0_1 x63_3).f1).length c437_1, .int .i64 ((rd_T56 l0_1 x63_3).f2), .int .i64 ((rd_T56 l0_1 x63_3).f3), .int .i64 ((rd_T56 l0_1 x63_3).f4)] 56 (0, 0)) (by exact pl (bp5 (bx BK438.out))) hb); replace HB := bs w hb; (try clear hb); obtain ⟨y49a, y49b, v49a, v49b⟩ := cl2 BK425.out; obtain ⟨y50a, y50b, y50c, y50d, y50e, v50a, v50b, v50c, v50d, v50e⟩ := cl5 BK438.out) | (go_at_call 82; (with_reducible refine (impl_FnAt.calls k3 _ _ l0_0 _ _ l0_1 ((rd_T56 l0_1 x63_3).f0) t440 _ (cb HR0_0) HC0_0.out (cb HR0_1) HC0_1.out A44.out).mono ?_); rintro e w51 ⟨rfl, hb⟩; replace HO_4 := As.mk (Kd.R_below (by (with_reducible repeat (first | apply Kd.R_alloc | apply Kd.R_drewN | apply Kd.R_drew)); exact HO_4.out) hb); replace BK425 := bb BK425 hb; replace BK438 := bb BK438 hb; replace HB := bs w hb; (try clear hb)))
        go_meet
        case rel => exact ⟨_, ((t440 != x63_3)), (by first | rfl | (simp; done) | (simp [*]; done)), H', ⟨by have := HJ1.out; have := HK2.out; have := HK3.out; first | omega | exact Nat.le_refl _⟩, ⟨by (with_reducible repeat (first | apply Kd.R_alloc | apply Kd.R_drewN | apply Kd.R_drew)); exact HO_4.out⟩, ⟨bx BK425.out⟩, ⟨bx BK438.out⟩, ⟨be w⟩⟩
       case rest =>
        clear HC38; (try clear c13); (try clear c14); (try clear c14b0); (try clear c14b1); (try clear c15); (try clear c15b0); (try clear c15b1); (try clear c19); (try clear c19b0); (try clear c35); (try clear c35b0); (try clear c36); (try clear c36b0); (try clear c37); (try clear c37b0); (try clear y18a); (try clear y18b); (try clear y34a); (try clear y34b); (try clear y41a); (try clear y41b); (try clear y41c); (try clear y41d); (try clear y41e); (try clear y4a); (try clear y4b); (try clear v18a); (try clear v18b); (try clear v34a); (try clear v34b); (try clear v41a); (try clear v41b); (try clear v41c); (try clear v41d); (try clear v41e); (try clear v4a); (try clear v4b); (try clear x437a); (try clear x437b); (try clear x437c); (try clear x437d); (try clear x437e); (try clear p437); (try clear q437); obtain ⟨kq, x79_37, rfl, HA, HJ37, HO_4, BK425, BK438, HB⟩ := hcut
        cases kq with
        | zero => exact absurd HA.out (by simp [impl_ProgramOk.j4])
        | succ kj37 =>
         have H := HA.out; clear HA
         simp only [impl_ProgramOk.j4] at H
         by_cases c56 : x79_37 = true
         ·
          subst c56; rw [if_pos rfl] at H; obtain rfl := sj H
          go_wp2
          go_ret
          exact ⟨ez, be w⟩
         replace c56 := Bool.eq_false_iff.mpr c56; subst c56; rw [if_neg ft] at H
         obtain ⟨y441, hy441⟩ : ∃ y_ : List Int, y_ = (([((rd_T56 l0_1 x63_3).f3), ((rd_T56 l0_1 x63_3).f4)] : List Int)) := ⟨_, rfl⟩
         replace H : (impl_ProgramOk.l3 kj37 x4_3 l0_1 (l0_1.length : Int) x63_3 y441 (y441.length : Int) 0 l0_0 l0_1) = some r := by first | (rw [hy441]; with_reducible exact H) | (have H2_ := (Option.bind_some _ _).symm.trans H; rw [hy441]; with_reducible exact H2_) | (have H2_ := (Option.bind_some _ _).symm.trans H; with_reducible exact H2_) | with_reducible exact H | (rw [hy441]; exact H) | exact H
         have Ny441 := As.mk hy441; clear hy441; have H' := As.mk H; clear H; have hnb57 := NB438_425.out; have hnc57 := NB425_438.out; obtain ⟨y58a, y58b, y58c, y58d, y58e, v58a, v58b, v58c, v58d, v58e⟩ := cl5 BK438.out
         go_wp2_with (first | ((with_reducible refine gate_dst (N := 84) rfl ?_); (try (refine gate_guard (by rfl) ?_; dsimp only)); refine Kd.R_lit (Kd.int .i64) _ 3 ?hg (N := 84) ?hd (xs := ([((rd_T56 l0_1 x63_3).f3), ((rd_T56 l0_1 x63_3).f4)] : List Int)) (inner := [.int .i64 ((rd_T56 l0_1 x63_3).f3), .int .i64 ((rd_T56 l0_1 x63_3).f4)]) (ok := fun _ => True) (okp := fun _ => True) ?hr ?hp (fun _ hk => hk) trivial (Below.refl _ _) (Nat.le_refl _) (by simp) ?_; (case hd => rfl); (case hg => rfl); (case hr => first | (go_simp; done) | (go_simp; rfl)); (case hp => exact (Reps.one (show Kd.M (Kd.int .i64) _ _ _ ((rd_T56 l0_1 x63_3).f3) [.int .i64 ((rd_T56 l0_1 x63_3).f3)] from rfl) (Reps.one (show Kd.M (Kd.int .i64) _ _ _ ((rd_T56 l0_1 x63_3).f4) [.int .i64 ((rd_T56 l0_1 x63_3).f4)] from rfl) (Reps.none _ _)))); intro v442 w59 ho60 hb hg_ hnew_; clear hg_ hnew_; (first | rw [← Ny441.out] at ho60 | (simp only [Int.reduceToNat] at ho60; rw [← Ny441.out] at ho60)); have HO443 := As.mk (Kd.R_lower (Kd.R_new' ho60 (Kd.R_lt (by (with_reducible repeat (first | apply Kd.R_alloc | apply Kd.R_drewN | apply Kd.R_drew)); exact HO_4.out))) (below_size (be w))); replace HO_4 := As.mk (Kd.R_elder' (by (with_reducible repeat (first | apply Kd.R_alloc | apply Kd.R_drewN | apply Kd.R_drew)); exact HO_4.out) (Kd.R_base ho60) hb); replace BK425 := bb BK425 hb; replace BK438 := bb BK438 hb; replace HB := bs w hb; clear hb ho60; obtain ⟨Ao61, co61, eo61⟩ := Kd.R_slice HO443.out; subst eo61))
         go_loopg [86] kj37 (fun kq v86 w' => ∃ (x4_5 : List Int) (x86_5 : Int), v86 = .int .i64 x86_5 ∧ As (impl_ProgramOk.l3 kq x4_5 l0_1 (l0_1.length : Int) x63_3 y441 (y441.length : Int) x86_5 l0_0 l0_1 = some r) ∧ As (kq ≤ kj37) ∧ As (Kd.R (Kd.int .i64) 3 w' w.heap.size (fun k_ => some k_ ≠ ((.slice Ao61 y441.length co61) : Value).ownBlock) v430 x4_5) ∧ As (Kd.R (Kd.int .i64) 3 w' w.heap.size (fun k_ => some k_ ≠ (v430 : Value).ownBlock) (.slice Ao61 y441.length co61) y441) ∧ As (w'.heap[gb425]? = some (.cells #[(.slice A0_0 l0_0.length c0_0), (.slice (some ad437) l0_1.length c0_1)] 32 (0, 0))) ∧ As (w'.heap[gb438]? = some (.cells #[.string ((rd_T56 l0_1 x63_3).f0), (.slice A437_1 ((rd_T56 l0_1 x63_3).f1).length c437_1), .int .i64 ((rd_T56 l0_1 x63_3).f2), .int .i64 ((rd_T56 l0_1 x63_3).f3), .int .i64 ((rd_T56 l0_1 x63_3).f4)] 56 (0, 0))) ∧ As (Below w.heap.size w w'))
         case atStart => exact ⟨(x4_3), (0), (by first | rfl | (simp; done) | (simp [*]; done)), H', ⟨Nat.le_refl _⟩, ⟨by (with_reducible repeat (first | apply Kd.R_alloc | apply Kd.R_drewN | apply Kd.R_drew)); exact Kd.R_mono HO_4.out (fun _ hk => hk.2)⟩, ⟨by (with_reducible repeat (first | apply Kd.R_alloc | apply Kd.R_drewN | apply Kd.R_drew)); exact Kd.R_mono HO443.out (fun _ hk => hk.2)⟩, ⟨bx BK425.out⟩, ⟨bx BK438.out⟩, ⟨be w⟩⟩
         case round =>
          clear H'; (try clear c13); (try clear c14); (try clear c14b0); (try clear c14b1); (try clear c15); (try clear c15b0); (try clear c15b1); (try clear c19); (try clear c19b0); (try clear c35); (try clear c35b0); (try clear c36); (try clear c36b0); (try clear c37); (try clear c37b0); (try clear c56); (try clear y18a); (try clear y18b); (try clear y34a); (try clear y34b); (try clear y41a); (try clear y41b); (try clear y41c); (try clear y41d); (try clear y41e); (try clear y4a); (try clear y4b); (try clear y58a); (try clear y58b); (try clear y58c); (try clear y58d); (try clear y58e); (try clear v18a); (try clear v18b); (try clear v34a); (try clear v34b); (try clear v41a); (try clear v41b); (try clear v41c); (try clear v41d); (try clear v41e); (try clear v4a); (try clear v4b); (try clear v58a); (try clear v58b); (try clear v58c); (try clear v58d); (try clear v58e); (try clear x437a); (try clear x437b); (try clear x437c); (try clear x437d); (try clear x437e); (try clear p437); (try clear q437); obtain ⟨x4_5, x86_5, rfl, HA, HK5, HO_4, HO_84, BK425, BK438, HB⟩ := hrel
          cases gk with
          | zero => exact absurd HA.out (by simp [impl_ProgramOk.l3])
          | succ k5 =>
           have H := HA.out; clear HA
           simp only [impl_ProgramOk.l3] at H
           by_cases c62 : x86_5 < (y441.length : Int)
           rotate_left
           ·
            rw [if_neg c62] at H; have c62b0 := decide_eq_false c62; clear c62; have H' := As.mk H; clear H
            go_wp2
            go_roundg k5
            case measure => have := HJ1.out; have := HK2.out; have := HK3.out; have := HJ37.out; have := HK5.out; omega
            case rel => exact ⟨(x4_5), (wrap64 (x63_3 + 1)), (by first | rfl | (simp; done) | (simp [*]; done)), H', ⟨by have := HJ1.out; have := HK2.out; have := HK3.out; have := HJ37.out; have := HK5.out; omega⟩, ⟨by (with_reducible repeat (first | apply Kd.R_alloc | apply Kd.R_drewN | apply Kd.R_drew)); exact Kd.R_mono HO_4.out (fun _ hk => trivial)⟩, ⟨bx BK425.out⟩, ⟨be w⟩⟩
           rw [if_pos c62] at H; have c62b0 := decide_eq_true c62; clear c62; replace H := ia H; obtain ⟨c63b0, H⟩ := H; replace H := ia H; obtain ⟨c64b0, H⟩ := H
           by_cases c65 : (rd y441 x86_5) < 0
           ·
            rw [if_pos c65] at H; have c65b0 := decide_eq_true c65; clear c65; have H' := As.mk H; clear H; have p444 : 0 ≤ (x86_5 : Int) := od; have q444 : x86_5 < (y441.length : Int) := od; obtain ⟨ad444, e444, x444a⟩ := Kd.at_int (Kd.R_reads' HO_84.out).2.2 x86_5 p444 q444; cases e444; replace p444 := eq_true p444; replace q444 := eq_true q444
            go_wp2
            go_roundg k5
            case measure => have := HJ1.out; have := HK2.out; have := HK3.out; have := HJ37.out; have := HK5.out; omega
            case rel => exact ⟨(x4_5), (wrap64 (x86_5 + 1)), (by first | rfl | (simp; done) | (simp [*]; done)), H', ⟨by have := HJ1.out; have := HK2.out; have := HK3.out; have := HJ37.out; have := HK5.out; omega⟩, ⟨by (with_reducible repeat (first | apply Kd.R_alloc | apply Kd.R_drewN | apply Kd.R_drew)); exact HO_4.out⟩, ⟨by (with_reducible repeat (first | apply Kd.R_alloc | apply Kd.R_drewN | apply Kd.R_drew)); exact HO_84.out⟩, ⟨bx BK425.out⟩, ⟨bx BK438.out⟩, ⟨be w⟩⟩
           rw [if_neg c65] at H; have c65b0 := decide_eq_false c65; clear c65; replace H := ia H; obtain ⟨c66b0, H⟩ := H; replace H := ia H; obtain ⟨c67b0, H⟩ := H
           by_cases c68 : (rd x4_5 (rd y441 x86_5)) = 0
           rotate_left
           ·
            rw [if_neg c68] at H; have c68b0 : ((rd x4_5 (rd y441 x86_5)) == 0) = false := beq_eq_false_iff_ne.mpr c68; have c68b1 : ((rd x4_5 (rd y441 x86_5)) != 0) = true := bne_iff_ne.mpr c68; obtain rfl := sj H; have p444 : 0 ≤ (x86_5 : Int) := od; have q444 : x86_5 < (y441.length : Int) := od; obtain ⟨ad444, e444, x444a⟩ := Kd.at_int (Kd.R_reads' HO_84.out).2.2 x86_5 p444 q444; cases e444; replace p444 := eq_true p444; replace q444 := eq_true q444; obtain ⟨Ao73, co73, eo73⟩ := Kd.R_slice HO_4.out; subst eo73; have p445 : 0 ≤ ((rd y441 x86_5) : Int) := od; have q445 : (rd y441 x86_5) < (x4_5.length : Int) := od; obtain ⟨ad445, e445, x445a⟩ := Kd.at_int (Kd.R_reads' HO_4.out).2.2 (rd y441 x86_5) p445 q445; cases e445; replace p445 := eq_true p445; replace q445 := eq_true q445
            go_wp2
            go_ret
            exact ⟨ez, be w⟩
           rw [if_pos c68] at H; have c68b0 : ((rd x4_5 (rd y441 x86_5)) == 0) = true := beq_iff_eq.mpr c68; have c68b1 : ((rd x4_5 (rd y441 x86_5)) != 0) = false := bne_eq_false_iff_eq.mpr c68; clear c68
           obtain ⟨y446, hy446⟩ : ∃ y_ : List Int, y_ = (x4_5.set ((rd y441 x86_5) : Int).toNat (-1)) := ⟨_, rfl⟩
           replace H : (impl_ProgramOk.l3 k5 y446 l0_1 (l0_1.length : Int) x63_3 y441 (y441.length : Int) (wrap64 (x86_5 + 1)) l0_0 l0_1) = some r := by first | (rw [hy446]; with_reducible exact H) | (have H2_ := (Option.bind_some _ _).symm.trans H; rw [hy446]; with_reducible exact H2_) | (have H2_ := (Option.bind_some _ _).symm.trans H; with_reducible exact H2_) | with_reducible exact H | (rw [hy446]; exact H) | exact H
           have Ny446 := As.mk hy446; clear hy446; have H' := As.mk H; clear H; have p444 : 0 ≤ (x86_5 : Int) := od; have q444 : x86_5 < (y441.length : Int) := od; obtain ⟨ad444, e444, x444a⟩ := Kd.at_int (Kd.R_reads' HO_84.out).2.2 x86_5 p444 q444; cases e444; replace p444 := eq_true p444; replace q444 := eq_true q444; obtain ⟨Ao70, co70, eo70⟩ := Kd.R_slice HO_4.out; subst eo70; have p445 : 0 ≤ ((rd y441 x86_5) : Int) := od; have q445 : (rd y441 x86_5) < (x4_5.length : Int) := od; obtain ⟨ad445, e445, x445a⟩ := Kd.at_int (Kd.R_reads' HO_4.out).2.2 (rd y441 x86_5) p445 q445; cases e445; replace p445 := eq_true p445; replace q445 := eq_true q445; have p69 : 0 ≤ ((rd y441 x86_5) : Int) := od; have q69 : ((rd y441 x86_5) : Int) < ((x4_5.length : Int) : Int) := od; obtain ⟨go69, co69, eo69, gb69, gl69, cl69, HG69⟩ := Kd.R_form HO_4.out (by omega)
           (first | cases eo69 | (injection eo69 with ea_ en_ ec_; (first | subst ea_ | (injection ea_ with ea_; subst ea_)); subst ec_; clear en_))
           have GB69 := As.mk gb69; have GG69 := As.mk HG69; clear gb69 gl69 HG69
           (first | simp only [add_plain] at x445a | skip)
           obtain ⟨x69a, f69a⟩ := Kd.R_celln 0 HO_4.out ((rd y441 x86_5) : Int) p69 q69; replace p69 := eq_true p69; replace q69 := eq_true q69; have HP71 := Kd.R_putg HO_4.out ((rd y441 x86_5) : Int) (-1)
           go_wp2_with (first | ((with_reducible refine gate_store (t := 3) (p := 99) rfl ?_); refine store_event (t := 3) (p := 99) (v := ?vo_w72) (w1 := (wr.setCell ⟨go69, ((rd y441 x86_5) : Int).toNat, none⟩ (.int .i64 (-1)))) ?hg ?ho ?hn ?hr ?_; (case ho => rfl); (case hg => rfl); (case hn => rfl); (case hr => first | (go_simp; done) | (go_simp; rfl)); intro w72 hw; have hg : wr.grownBy w72 (some go69) := (by rw [hw]; exact HP71.2); have hp_ : Kd.R (Kd.int .i64) 3 w72 w.heap.size (fun k_ => some k_ ≠ (.slice (some ad444) y441.length co61 : Value).ownBlock) (.slice (some ⟨go69, 0, none⟩) x4_5.length co70) y446 := (by rw [hw, Ny446.out]; exact HP71.1); clear HP71; replace HO_84 := As.mk (Kd.R_after (v := (.slice (some ⟨go69, 0, none⟩) x4_5.length co70)) (v1 := (.slice (some ⟨go69, 0, none⟩) x4_5.length co70)) (ok := (fun _ => True)) (by (with_reducible repeat (first | apply Kd.R_alloc | apply Kd.R_drewN | apply Kd.R_drew)); exact Kd.R_mono HO_84.out (fun _ hk => ⟨trivial, hk⟩)) hg (.inl rfl)); replace BK425 := As.mk (blk_grown (g := gb425) (o := .cells #[.slice A0_0 l0_0.length c0_0, .slice (some ad437) l0_1.length c0_1] 32 (0, 0)) (bx BK425.out) hg (Kd.R_ne HO_4.out BK425.out (by decide))); replace BK438 := As.mk (blk_grown (g := gb438) (o := .cells #[.string ((rd_T56 l0_1 x63_3).f0), .slice A437_1 ((rd_T56 l0_1 x63_3).f1).length c437_1, .int .i64 ((rd_T56 l0_1 x63_3).f2), .int .i64 ((rd_T56 l0_1 x63_3).f3), .int .i64 ((rd_T56 l0_1 x63_3).f4)] 56 (0, 0)) (bx BK438.out) hg (Kd.R_ne HO_4.out BK438.out (by decide))); replace HO_4 := As.mk (hp_); replace HB := As.mk ((by rw [hw]; exact below_set (HB.out) GB69.out : Below w.heap.size w w72)); clear hg hw hp_))
           go_roundg k5
           case measure => have := HJ1.out; have := HK2.out; have := HK3.out; have := HJ37.out; have := HK5.out; omega
           case rel => exact ⟨(y446), (wrap64 (x86_5 + 1)), (by first | rfl | (simp; done) | (simp [*]; done)), H', ⟨by have := HJ1.out; have := HK2.out; have := HK3.out; have := HJ37.out; have := HK5.out; omega⟩, ⟨by (with_reducible repeat (first | apply Kd.R_alloc | apply Kd.R_drewN | apply Kd.R_drew)); exact HO_4.out⟩, ⟨by (with_reducible repeat (first | apply Kd.R_alloc | apply Kd.R_drewN | apply Kd.R_drew)); exact Kd.R_mono HO_84.out (fun _ hk => hk.2)⟩, ⟨bx BK425.out⟩, ⟨bx BK438.out⟩, ⟨be w⟩⟩
/-! ### impl_Decimal: function 85 -/
def impl_Decimal.f (a0 : Int) : Option (ByteArray) := (strconv_Itoa.f a0).bind fun t448 => (some t448)
set_option maxHeartbeats 8000000 in
set_option maxRecDepth 100000 in
theorem impl_Decimal.calls (a0 : Int) (r : ByteArray) (w : World) (hTab : TabW w) (h : impl_Decimal.f a0 = some r) :
  Calls Tryz.prog 85 #[.int .i64 a0] w fun e w' => e = .returned (.string r) ∧ Below w.heap.size w w' := by
 have HTAB := As.mk hTab; clear hTab; have HB := As.mk (Below.refl w.heap.size w); have H : ((strconv_Itoa.f a0).bind fun t448 => (some t448)) = some r := h; clear h; replace H := bo H; obtain ⟨t448, A2, H⟩ := H; obtain rfl := sj H; go_enter Tryz.func85, Tryz.ntmps85
 go_wp2_with (first | ((with_reducible refine gate_callee (f := 108) rfl ?_); refine goL (some 4) Tryz.func108 #[.int .i64 a0] ?_; (with_reducible refine (strconv_Itoa.calls a0 t448 _ (by first | (with_reducible exact HTAB.out) | exact tabW_below HTAB.out (be w)) A2.out).mono ?_); rintro e w3 ⟨rfl, hb⟩; refine ⟨_, rfl, ?_⟩; replace HB := bs w hb; (try clear hb)))
 go_ret
 exact ⟨ez, be w⟩

end Go.Proofs.YtcoapbnbakmkoaaGreatDoor.PFnExactShowProgram
