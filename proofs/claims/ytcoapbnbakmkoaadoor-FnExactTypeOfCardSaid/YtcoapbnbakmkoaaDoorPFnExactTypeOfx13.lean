/- Written by a program of this session (a turned copy of the kit's print): a contract for each Go function. No condition beside those in each statement. -/
import Derived.Test.YtcoapbnbakmkoaaDoorPFnExactTypeOfx0
import Derived.Test.YtcoapbnbakmkoaaDoorPFnExactTypeOfx12
namespace Go.Proofs.YtcoapbnbakmkoaaDoor.PFnExactTypeOf
open Go.RowKit Go.Proofs.YtcoapbnbakmkoaaDoor.Given Go.Proofs.YtcoapbnbakmkoaaDoorW.PrintWords Go.Proofs.YtcoapbnbakmkoaaDoorW.PrintLast Go.Proofs.YtcoapbnbakmkoaaDoorW.PrintMore
attribute [local go_sem] max2_int min2_int max_two min_two max_three min_three max_four min_four   -- for this text's walks alone
set_option linter.unusedVariables false
set_option linter.unusedSimpArgs false

/-! ### impl_typeOf: function 76 -/
/-! ### impl_callRight: function 102 -/
mutual
def impl_callRight.j0 : Nat → List (S100) → Int → Bool → List (S88) → List (S125) → Int → Int → ByteArray → List Int → Option (Bool)
  | 0, _, _, _, _, _, _, _, _, _ => none
  | k + 1, x1, x8, x34, x367000, x367001, x369000, x369001, x369002, x369003 => if x34 = true then (some false) else (impl_callRight.l0 k x1 x8 x369003 (x369003.length : Int) 0 x367000 x367001)
def impl_callRight.l0 : Nat → List (S100) → Int → List Int → Int → Int → List (S88) → List (S125) → Option (Bool)
  | 0, _, _, _, _, _, _, _ => none
  | k + 1, x1, x8, x36, x37, x38, x367000, x367001 => if x38 < x37 then (if 0 ≤ x38 then (if x38 < (x36.length : Int) then ((impl_typeOf.f k x367000 x367001 x1 (rd x36 x38)).bind fun t372 => (if 0 ≤ x8 then (if x8 < (x367001.length : Int) then (if x38 < (((rd_T125 x367001 x8).f1).length : Int) then (if t372 = ((rd_T147 ((rd_T125 x367001 x8).f1) x38).f1) then (impl_callRight.l0 k x1 x8 x36 x37 (wrap64 (x38 + 1)) x367000 x367001) else (some false)) else (none)) else (none)) else (none))) else (none)) else (none)) else (some true)
def impl_callRight.f : Nat → List (S88) → List (S125) → List (S100) → Int → Option (Bool)
  | 0, _, _, _, _ => none
  | k + 1, l0_0, l0_1, l1, a2 => if 0 ≤ a2 then (if a2 < (l0_0.length : Int) then ((impl_FnAt.f k l0_0 l0_1 ((rd_T88 l0_0 a2).f2)).bind fun t369 => (if t369 < 0 then (impl_callRight.j0 k l1 t369 true l0_0 l0_1 ((rd_T88 l0_0 a2).f0) ((rd_T88 l0_0 a2).f1) ((rd_T88 l0_0 a2).f2) ((rd_T88 l0_0 a2).f3)) else (if 0 ≤ t369 then (if t369 < (l0_1.length : Int) then (impl_callRight.j0 k l1 t369 ((((rd_T125 l0_1 t369).f1).length : Int) != (((rd_T88 l0_0 a2).f3).length : Int)) l0_0 l0_1 ((rd_T88 l0_0 a2).f0) ((rd_T88 l0_0 a2).f1) ((rd_T88 l0_0 a2).f2) ((rd_T88 l0_0 a2).f3)) else (none)) else (none)))) else (none)) else (none)
def impl_typeOf.j0 : Nat → List (S100) → Int → Int → Int → Bool → List (S88) → List (S125) → Int → Int → ByteArray → List Int → Option (Int)
  | 0, _, _, _, _, _, _, _, _, _, _, _ => none
  | k + 1, x1, x2, x8, x19, x20, x376000, x376001, x378000, x378001, x378002, x378003 => if x20 = true then (some 1) else (if x19 = 2 then (some x8) else (if x19 = 3 then (if x8 = 2 then (some 1) else (if x8 = 3 then (some 1) else (if x8 = 4 then (some 1) else (some 0)))) else (if x19 = 4 then (if x8 = 2 then (some 2) else (if x8 = 3 then (some 2) else (if x8 = 4 then (some 2) else (some 0)))) else (if x19 = 5 then (if x8 = 2 then (some 3) else (some 0)) else (if x19 = 6 then (if x8 = 2 then (some 4) else (some 0)) else (if x19 = 8 then (if 0 < (x378003.length : Int) then ((impl_typeOf.f k x376000 x376001 x1 (rd x378003 0)).bind fun t380 => (if t380 = 1 then (some 2) else (some 0))) else (none)) else (if x19 = 9 then (impl_typeOf.j1 k x1 x2 x19 (x19 == 9) x376000 x376001 x378000 x378001 x378002 x378003) else (if x19 = 10 then (impl_typeOf.j1 k x1 x2 x19 (x19 == 10) x376000 x376001 x378000 x378001 x378002 x378003) else (impl_typeOf.j1 k x1 x2 x19 (x19 == 11) x376000 x376001 x378000 x378001 x378002 x378003)))))))))
def impl_typeOf.j1 : Nat → List (S100) → Int → Int → Bool → List (S88) → List (S125) → Int → Int → ByteArray → List Int → Option (Int)
  | 0, _, _, _, _, _, _, _, _, _, _ => none
  | k + 1, x1, x2, x19, x68, x376000, x376001, x378000, x378001, x378002, x378003 => if x68 = true then (if 0 < (x378003.length : Int) then ((impl_typeOf.f k x376000 x376001 x1 (rd x378003 0)).bind fun t382 => (if t382 = 1 then (if 1 < (x378003.length : Int) then ((impl_typeOf.f k x376000 x376001 x1 (rd x378003 1)).bind fun t384 => (if t384 = 1 then (some 1) else (some 0))) else (none)) else (some 0))) else (none)) else (if x19 = 12 then ((impl_callRight.f k x376000 x376001 x1 x2).bind fun t385 => (if t385 = true then ((impl_FnAt.f k x376000 x376001 x378002).bind fun t386 => (if 0 ≤ t386 then (if t386 < (x376001.length : Int) then (some ((rd_T125 x376001 t386).f2)) else (none)) else (none))) else (some 0))) else (some 0))
def impl_typeOf.f : Nat → List (S88) → List (S125) → List (S100) → Int → Option (Int)
  | 0, _, _, _, _ => none
  | k + 1, l0_0, l0_1, l1, a2 => if 0 ≤ a2 then (if a2 < (l0_0.length : Int) then ((impl_varType.f k l1 ((rd_T88 l0_0 a2).f2)).bind fun t378 => (if ((rd_T88 l0_0 a2).f0) = 1 then (impl_typeOf.j0 k l1 a2 t378 ((rd_T88 l0_0 a2).f0) (((rd_T88 l0_0 a2).f0) == 1) l0_0 l0_1 ((rd_T88 l0_0 a2).f0) ((rd_T88 l0_0 a2).f1) ((rd_T88 l0_0 a2).f2) ((rd_T88 l0_0 a2).f3)) else (impl_typeOf.j0 k l1 a2 t378 ((rd_T88 l0_0 a2).f0) (((rd_T88 l0_0 a2).f0) == 7) l0_0 l0_1 ((rd_T88 l0_0 a2).f0) ((rd_T88 l0_0 a2).f1) ((rd_T88 l0_0 a2).f2) ((rd_T88 l0_0 a2).f3)))) else (none)) else (none)
end
theorem impl_typeOf.mono_l : ∀ k, (∀ y0 y1 y2 y3, LeO (impl_callRight.f k y0 y1 y2 y3) (impl_callRight.f (k + 1) y0 y1 y2 y3)) ∧ (∀ y0 y1 y2 y3 y4 y5 y6 y7 y8, LeO (impl_callRight.j0 k y0 y1 y2 y3 y4 y5 y6 y7 y8) (impl_callRight.j0 (k + 1) y0 y1 y2 y3 y4 y5 y6 y7 y8)) ∧ (∀ y0 y1 y2 y3 y4 y5 y6, LeO (impl_callRight.l0 k y0 y1 y2 y3 y4 y5 y6) (impl_callRight.l0 (k + 1) y0 y1 y2 y3 y4 y5 y6)) ∧ (∀ y0 y1 y2 y3, LeO (impl_typeOf.f k y0 y1 y2 y3) (impl_typeOf.f (k + 1) y0 y1 y2 y3)) ∧ (∀ y0 y1 y2 y3 y4 y5 y6 y7 y8 y9 y10, LeO (impl_typeOf.j0 k y0 y1 y2 y3 y4 y5 y6 y7 y8 y9 y10) (impl_typeOf.j0 (k + 1) y0 y1 y2 y3 y4 y5 y6 y7 y8 y9 y10)) ∧ (∀ y0 y1 y2 y3 y4 y5 y6 y7 y8 y9, LeO (impl_typeOf.j1 k y0 y1 y2 y3 y4 y5 y6 y7 y8 y9) (impl_typeOf.j1 (k + 1) y0 y1 y2 y3 y4 y5 y6 y7 y8 y9))
  | 0 => ⟨fun _ _ _ _ r h => by simp [impl_callRight.f] at h, fun _ _ _ _ _ _ _ _ _ r h => by simp [impl_callRight.j0] at h, fun _ _ _ _ _ _ _ r h => by simp [impl_callRight.l0] at h, fun _ _ _ _ r h => by simp [impl_typeOf.f] at h, fun _ _ _ _ _ _ _ _ _ _ _ r h => by simp [impl_typeOf.j0] at h, fun _ _ _ _ _ _ _ _ _ _ r h => by simp [impl_typeOf.j1] at h⟩
  | k + 1 => by
    obtain ⟨ih0, ih1, ih2, ih3, ih4, ih5⟩ := impl_typeOf.mono_l k
    refine ⟨?_, ?_, ?_, ?_, ?_, ?_⟩
    · intro y0 y1 y2 y3
      unfold impl_callRight.f
      repeat' first
      | (with_reducible exact ih0 _ _ _ _)
      | (with_reducible exact ih1 _ _ _ _ _ _ _ _ _)
      | (with_reducible exact ih2 _ _ _ _ _ _ _)
      | (with_reducible exact ih3 _ _ _ _)
      | (with_reducible exact ih4 _ _ _ _ _ _ _ _ _ _ _)
      | (with_reducible exact ih5 _ _ _ _ _ _ _ _ _ _)
      | (with_reducible exact impl_FnAt.mono _ _ _ _)
      | (with_reducible exact impl_varType.mono _ _ _)
      | (with_reducible exact LeO.refl _)
      | (with_reducible exact LeO.none _)
      | (with_reducible refine LeO.ite ?_ ?_)
      | (with_reducible refine LeO.bind ?_ (fun _ => ?_))
      | exact ih0 _ _ _ _
      | exact ih1 _ _ _ _ _ _ _ _ _
      | exact ih2 _ _ _ _ _ _ _
      | exact ih3 _ _ _ _
      | exact ih4 _ _ _ _ _ _ _ _ _ _ _
      | exact ih5 _ _ _ _ _ _ _ _ _ _
      | exact impl_FnAt.mono _ _ _ _
      | exact impl_varType.mono _ _ _
      | exact LeO.none _
      | refine LeO.ite ?_ ?_
      | refine LeO.bind ?_ (fun _ => ?_)
    · intro y0 y1 y2 y3 y4 y5 y6 y7 y8
      unfold impl_callRight.j0
      repeat' first
      | (with_reducible exact ih0 _ _ _ _)
      | (with_reducible exact ih1 _ _ _ _ _ _ _ _ _)
      | (with_reducible exact ih2 _ _ _ _ _ _ _)
      | (with_reducible exact ih3 _ _ _ _)
      | (with_reducible exact ih4 _ _ _ _ _ _ _ _ _ _ _)
      | (with_reducible exact ih5 _ _ _ _ _ _ _ _ _ _)
      | (with_reducible exact impl_FnAt.mono _ _ _ _)
      | (with_reducible exact impl_varType.mono _ _ _)
      | (with_reducible exact LeO.refl _)
      | (with_reducible exact LeO.none _)
      | (with_reducible refine LeO.ite ?_ ?_)
      | (with_reducible refine LeO.bind ?_ (fun _ => ?_))
      | exact ih0 _ _ _ _
      | exact ih1 _ _ _ _ _ _ _ _ _
      | exact ih2 _ _ _ _ _ _ _
      | exact ih3 _ _ _ _
      | exact ih4 _ _ _ _ _ _ _ _ _ _ _
      | exact ih5 _ _ _ _ _ _ _ _ _ _
      | exact impl_FnAt.mono _ _ _ _
      | exact impl_varType.mono _ _ _
      | exact LeO.none _
      | refine LeO.ite ?_ ?_
      | refine LeO.bind ?_ (fun _ => ?_)
    · intro y0 y1 y2 y3 y4 y5 y6
      unfold impl_callRight.l0
      repeat' first
      | (with_reducible exact ih0 _ _ _ _)
      | (with_reducible exact ih1 _ _ _ _ _ _ _ _ _)
      | (with_reducible exact ih2 _ _ _ _ _ _ _)
      | (with_reducible exact ih3 _ _ _ _)
      | (with_reducible exact ih4 _ _ _ _ _ _ _ _ _ _ _)
      | (with_reducible exact ih5 _ _ _ _ _ _ _ _ _ _)
      | (with_reducible exact impl_FnAt.mono _ _ _ _)
      | (with_reducible exact impl_varType.mono _ _ _)
      | (with_reducible exact LeO.refl _)
      | (with_reducible exact LeO.none _)
      | (with_reducible refine LeO.ite ?_ ?_)
      | (with_reducible refine LeO.bind ?_ (fun _ => ?_))
      | exact ih0 _ _ _ _
      | exact ih1 _ _ _ _ _ _ _ _ _
      | exact ih2 _ _ _ _ _ _ _
      | exact ih3 _ _ _ _
      | exact ih4 _ _ _ _ _ _ _ _ _ _ _
      | exact ih5 _ _ _ _ _ _ _ _ _ _
      | exact impl_FnAt.mono _ _ _ _
      | exact impl_varType.mono _ _ _
      | exact LeO.none _
      | refine LeO.ite ?_ ?_
      | refine LeO.bind ?_ (fun _ => ?_)
    · intro y0 y1 y2 y3
      unfold impl_typeOf.f
      repeat' first
      | (with_reducible exact ih0 _ _ _ _)
      | (with_reducible exact ih1 _ _ _ _ _ _ _ _ _)
      | (with_reducible exact ih2 _ _ _ _ _ _ _)
      | (with_reducible exact ih3 _ _ _ _)
      | (with_reducible exact ih4 _ _ _ _ _ _ _ _ _ _ _)
      | (with_reducible exact ih5 _ _ _ _ _ _ _ _ _ _)
      | (with_reducible exact impl_FnAt.mono _ _ _ _)
      | (with_reducible exact impl_varType.mono _ _ _)
      | (with_reducible exact LeO.refl _)
      | (with_reducible exact LeO.none _)
      | (with_reducible refine LeO.ite ?_ ?_)
      | (with_reducible refine LeO.bind ?_ (fun _ => ?_))
      | exact ih0 _ _ _ _
      | exact ih1 _ _ _ _ _ _ _ _ _
      | exact ih2 _ _ _ _ _ _ _
      | exact ih3 _ _ _ _
      | exact ih4 _ _ _ _ _ _ _ _ _ _ _
      | exact ih5 _ _ _ _ _ _ _ _ _ _
      | exact impl_FnAt.mono _ _ _ _
      | exact impl_varType.mono _ _ _
      | exact LeO.none _
      | refine LeO.ite ?_ ?_
      | refine LeO.bind ?_ (fun _ => ?_)
    · intro y0 y1 y2 y3 y4 y5 y6 y7 y8 y9 y10
      unfold impl_typeOf.j0
      repeat' first
      | (with_reducible exact ih0 _ _ _ _)
      | (with_reducible exact ih1 _ _ _ _ _ _ _ _ _)
      | (with_reducible exact ih2 _ _ _ _ _ _ _)
      | (with_reducible exact ih3 _ _ _ _)
      | (with_reducible exact ih4 _ _ _ _ _ _ _ _ _ _ _)
      | (with_reducible exact ih5 _ _ _ _ _ _ _ _ _ _)
      | (with_reducible exact impl_FnAt.mono _ _ _ _)
      | (with_reducible exact impl_varType.mono _ _ _)
      | (with_reducible exact LeO.refl _)
      | (with_reducible exact LeO.none _)
      | (with_reducible refine LeO.ite ?_ ?_)
      | (with_reducible refine LeO.bind ?_ (fun _ => ?_))
      | exact ih0 _ _ _ _
      | exact ih1 _ _ _ _ _ _ _ _ _
      | exact ih2 _ _ _ _ _ _ _
      | exact ih3 _ _ _ _
      | exact ih4 _ _ _ _ _ _ _ _ _ _ _
      | exact ih5 _ _ _ _ _ _ _ _ _ _
      | exact impl_FnAt.mono _ _ _ _
      | exact impl_varType.mono _ _ _
      | exact LeO.none _
      | refine LeO.ite ?_ ?_
      | refine LeO.bind ?_ (fun _ => ?_)
    · intro y0 y1 y2 y3 y4 y5 y6 y7 y8 y9
      unfold impl_typeOf.j1
      repeat' first
      | (with_reducible exact ih0 _ _ _ _)
      | (with_reducible exact ih1 _ _ _ _ _ _ _ _ _)
      | (with_reducible exact ih2 _ _ _ _ _ _ _)
      | (with_reducible exact ih3 _ _ _ _)
      | (with_reducible exact ih4 _ _ _ _ _ _ _ _ _ _ _)
      | (with_reducible exact ih5 _ _ _ _ _ _ _ _ _ _)
      | (with_reducible exact impl_FnAt.mono _ _ _ _)
      | (with_reducible exact impl_varType.mono _ _ _)
      | (with_reducible exact LeO.refl _)
      | (with_reducible exact LeO.none _)
      | (with_reducible refine LeO.ite ?_ ?_)
      | (with_reducible refine LeO.bind ?_ (fun _ => ?_))
      | exact ih0 _ _ _ _
      | exact ih1 _ _ _ _ _ _ _ _ _
      | exact ih2 _ _ _ _ _ _ _
      | exact ih3 _ _ _ _
      | exact ih4 _ _ _ _ _ _ _ _ _ _ _
      | exact ih5 _ _ _ _ _ _ _ _ _ _
      | exact impl_FnAt.mono _ _ _ _
      | exact impl_varType.mono _ _ _
      | exact LeO.none _
      | refine LeO.ite ?_ ?_
      | refine LeO.bind ?_ (fun _ => ?_)
theorem impl_callRight.mono : ∀ a0 a1 a2 a3 k, LeO (impl_callRight.f k a0 a1 a2 a3) (impl_callRight.f (k + 1) a0 a1 a2 a3) := by
  intro a0 a1 a2 a3 k
  obtain ⟨ih0, ih1, ih2, ih3, ih4, ih5⟩ := impl_typeOf.mono_l k
  exact ih0 a0 a1 a2 a3
theorem impl_typeOf.mono : ∀ a0 a1 a2 a3 k, LeO (impl_typeOf.f k a0 a1 a2 a3) (impl_typeOf.f (k + 1) a0 a1 a2 a3) := by
  intro a0 a1 a2 a3 k
  obtain ⟨ih0, ih1, ih2, ih3, ih4, ih5⟩ := impl_typeOf.mono_l k
  exact ih3 a0 a1 a2 a3
abbrev impl_callRight.C (k : Nat) : Prop := ∀ (A0_0 : Option Addr) (c0_0 : Nat) (l0_0 : List (S88)) (A0_1 : Option Addr) (c0_1 : Nat) (l0_1 : List (S125)) (A1 : Option Addr) (c1 : Nat) (l1 : List (S100)) (a2 : Int) (r : Bool) (w : World) (hr0_0 : Kd.C k88 w A0_0 l0_0.length l0_0) (hc0_0 : l0_0.length ≤ c0_0) (hr0_1 : Kd.C k125 w A0_1 l0_1.length l0_1) (hc0_1 : l0_1.length ≤ c0_1) (hr1 : Kd.C k100 w A1 l1.length l1) (hc1 : l1.length ≤ c1) (h : impl_callRight.f k l0_0 l0_1 l1 a2 = some r),
  Calls Tryd.prog 102 #[.agg #[.slice A0_0 l0_0.length c0_0, .slice A0_1 l0_1.length c0_1], .slice A1 l1.length c1, .int .i64 a2] w fun e w' => e = .returned (.bool r) ∧ Below w.heap.size w w'
abbrev impl_typeOf.C (k : Nat) : Prop := ∀ (A0_0 : Option Addr) (c0_0 : Nat) (l0_0 : List (S88)) (A0_1 : Option Addr) (c0_1 : Nat) (l0_1 : List (S125)) (A1 : Option Addr) (c1 : Nat) (l1 : List (S100)) (a2 : Int) (r : Int) (w : World) (hr0_0 : Kd.C k88 w A0_0 l0_0.length l0_0) (hc0_0 : l0_0.length ≤ c0_0) (hr0_1 : Kd.C k125 w A0_1 l0_1.length l0_1) (hc0_1 : l0_1.length ≤ c0_1) (hr1 : Kd.C k100 w A1 l1.length l1) (hc1 : l1.length ≤ c1) (h : impl_typeOf.f k l0_0 l0_1 l1 a2 = some r),
  Calls Tryd.prog 76 #[.agg #[.slice A0_0 l0_0.length c0_0, .slice A0_1 l0_1.length c0_1], .slice A1 l1.length c1, .int .i64 a2] w fun e w' => e = .returned (.int .i64 r) ∧ Below w.heap.size w w'
def impl_callRight.T3 : Bool × List (List Nat × List Nat) := (true, [([], []), ([0], [0]), ([1], [1]), ([2], [2]), ([3, 2], [2, 3]), ([2], [2]), ([4, 5, 2], [2, 4, 5]), ([6, 2], [2, 6]), ([7, 2], [2, 7]), ([8, 2], [2, 8]), ([2], [2]), ([10, 2], [2, 10]), ([11, 2], [2, 11]), ([9, 12, 2], [2, 9, 12]), ([2, 13], [2, 13])])
def impl_callRight.B3 : List Nat := [0, 1, 3, 7, 15, 7, 63, 127, 255, 511, 7, 1031, 3079, 8191, 16383]
theorem impl_callRight.tab3 : rtab .any (opsOf Tryd.f102 3) = impl_callRight.T3 := by kernel_rfl
theorem impl_callRight.bits3 : waitsOk impl_callRight.T3.2 impl_callRight.B3 = true := by kernel_rfl
def impl_callRight.T8 : Bool × List (List Nat × List Nat) := (true, [([], []), ([], []), ([], []), ([0, 1, 2], [0, 1, 2]), ([], []), ([4], [4]), ([], []), ([5, 6], [5, 6]), ([7], [7]), ([8], [8]), ([], []), ([9, 10], [9, 10]), ([11], [11]), ([12], [12]), ([3, 13], [3, 13])])
def impl_callRight.B8 : List Nat := [0, 0, 0, 7, 0, 16, 0, 112, 240, 496, 0, 2032, 4080, 8176, 16383]
theorem impl_callRight.tab8 : rtab .any (opsOf Tryd.f102 8) = impl_callRight.T8 := by kernel_rfl
theorem impl_callRight.bits8 : waitsOk impl_callRight.T8.2 impl_callRight.B8 = true := by kernel_rfl
set_option maxHeartbeats 8000000 in
set_option maxRecDepth 100000 in
theorem impl_callRight.callsO (k : Nat) (ih : ∀ m_, m_ < k → impl_callRight.C m_) (ih_impl_typeOf : ∀ m_, m_ < k → impl_typeOf.C m_) : impl_callRight.C k := by
 intro A0_0 c0_0 l0_0 A0_1 c0_1 l0_1 A1 c1 l1 a2 r w hr0_0 hc0_0 hr0_1 hc0_1 hr1 hc1 h
 cases k with
 | zero => exact absurd h (by simp [impl_callRight.f])
 | succ k =>
 simp only [impl_callRight.f] at h
 have hu43 := Tryd.underlying43
 have hu88 := Tryd.underlying88
 have HR0_0 := As.mk hr0_0
 have HC0_0 := As.mk hc0_0
 clear hr0_0 hc0_0
 have HR0_1 := As.mk hr0_1
 have HC0_1 := As.mk hc0_1
 clear hr0_1 hc0_1
 have HR1 := As.mk hr1
 have HC1 := As.mk hc1
 clear hr1 hc1
 have HB := As.mk (Below.refl w.heap.size w)
 have H : (if 0 ≤ a2 then (if a2 < (l0_0.length : Int) then ((impl_FnAt.f k l0_0 l0_1 ((rd_T88 l0_0 a2).f2)).bind fun t369 => (if t369 < 0 then (impl_callRight.j0 k l1 t369 true l0_0 l0_1 ((rd_T88 l0_0 a2).f0) ((rd_T88 l0_0 a2).f1) ((rd_T88 l0_0 a2).f2) ((rd_T88 l0_0 a2).f3)) else (if 0 ≤ t369 then (if t369 < (l0_1.length : Int) then (impl_callRight.j0 k l1 t369 ((((rd_T125 l0_1 t369).f1).length : Int) != (((rd_T88 l0_0 a2).f3).length : Int)) l0_0 l0_1 ((rd_T88 l0_0 a2).f0) ((rd_T88 l0_0 a2).f1) ((rd_T88 l0_0 a2).f2) ((rd_T88 l0_0 a2).f3)) else (none)) else (none)))) else (none)) else (none)) = some r := h
 clear h
 by_cases c4 : 0 ≤ a2
 rotate_left; · rw [if_neg c4] at H; exact absurd H (by simp)

 rw [if_pos c4] at H
 have c4b0 : decide (0 ≤ a2) = true := decide_eq_true c4
 clear c4
 by_cases c5 : a2 < (l0_0.length : Int)
 rotate_left; · rw [if_neg c5] at H; exact absurd H (by simp)
 rw [if_pos c5] at H
 have c5b0 : decide (a2 < (l0_0.length : Int)) = true := decide_eq_true c5
 clear c5
 obtain ⟨t369, A60, H⟩ := Option.bind_eq_some_iff.mp H
 try dsimp only at H
 have A6 := As.mk A60
 clear A60
 have HC7 := As.mk H
 clear H
 go_enter Tryd.func102, Tryd.ntmps102
 go_upto_region 3 with (first | ((with_reducible refine gate_dst (N := 3) rfl ?_); (try (refine gate_guard (by rfl) ?_; dsimp only)); refine box_event ?hg (N := 3) ?hd (cs := #[.slice A0_0 l0_0.length c0_0, .slice A0_1 l0_1.length c0_1]) (t := 43) ?hr ?_; (case hd => rfl); (case hg => rfl); (case hr => first | (go_simp; done) | (go_simp; rfl)); intro gb366 hg w8 hbox hb; have BK366 := As.mk (hbox); have GW366 := As.mk (gs w hg); have GE366 := As.mk (gs w hg); replace HB := As.mk (below_step (be w) hb); clear hb hbox hg; obtain ⟨hcz9_0, hcz9_1, hfz9_0, hfz9_1⟩ := cl2 BK366.out; have p367 : 0 ≤ (a2 : Int) := od; have q367 : a2 < (l0_0.length : Int) := od; obtain ⟨ad367, A367_3, c367_3, e367, hx367_0, hx367_1, hx367_2, hx367_3, hl367_3, hi367_3⟩ := at_T88 HR0_0.out a2 p367 q367; cases e367; replace hx367_0 := ce HB.out hx367_0; replace hx367_1 := ce HB.out hx367_1; replace hx367_2 := ce HB.out hx367_2; replace hx367_3 := ce HB.out hx367_3; have HR367_3 := As.mk hi367_3; have HC367_3 := As.mk hl367_3; clear hi367_3 hl367_3; replace p367 := eq_true p367; replace q367 := eq_true q367) | ((with_reducible refine gate_dst (N := 7) rfl ?_); (try (refine gate_guard (by rfl) ?_; dsimp only)); refine box_event ?hg (N := 7) ?hd (cs := #[.int .i64 0, .int .i64 0, .string (⟨#[]⟩ : ByteArray), .slice none 0 0]) (t := 88) ?hr ?_; (case hd => rfl); (case hg => rfl); (case hr => first | (go_simp; done) | (go_simp; rfl)); intro gb368 hg w10 hbox hb; have BK368 := As.mk (hbox); have GW368 := As.mk (gs w hg); have GE368 := As.mk (gs w hg); replace HB := As.mk (below_step (be w) hb); have NB366_368 := As.mk (nl hg (bx BK366.out)); have NB368_366 := As.mk (ng hg (bx BK366.out)); replace BK366 := As.mk (blk_below (bx BK366.out) hb); clear hb hbox hg; have hnb11 := NB368_366.out; have hnc11 := NB366_368.out; obtain ⟨hcz12_0, hcz12_1, hcz12_2, hcz12_3, hfz12_0, hfz12_1, hfz12_2, hfz12_3⟩ := cl4 BK368.out; obtain ⟨hcz13_0, hcz13_1, hfz13_0, hfz13_1⟩ := cl2 BK366.out) | ((with_reducible refine gate_callee (f := 103) rfl ?_); refine goesL_ (some 19) rfl rfl Tryd.func103 (by kernel_rfl) rfl #[.agg #[.slice (some ad367) l0_0.length c0_0, .slice A0_1 l0_1.length c0_1], .string ((rd_T88 l0_0 a2).f2)] rfl (by (try simp only [lm]); first | done | rfl | (simp only [List.length_drop, List.length_take]; rfl)) ?_; (with_reducible refine (impl_FnAt.calls k _ _ l0_0 _ _ l0_1 ((rd_T88 l0_0 a2).f2) t369 _ ?side1 ?side2 ?side3 ?side4 A6.out).mono ?_); (case side1 => exact Kd.C_below HR0_0.out (be w)); (case side2 => exact HC0_0.out); (case side3 => exact Kd.C_below HR0_1.out (be w)); (case side4 => exact HC0_1.out); rintro e w14 ⟨rfl, hb⟩; refine ⟨_, rfl, ?_⟩; replace BK366 := As.mk (blk_below (g := gb366) (o := .cells #[.slice (some ad367) l0_0.length c0_0, .slice A0_1 l0_1.length c0_1] 43 (0, 0)) (by refine pl ?_; refine blk_far ?_ NB366_368.out _; refine pl ?_; refine blk_far ?_ NB366_368.out _; refine pl ?_; refine blk_far ?_ NB366_368.out _; refine pl ?_; refine blk_far ?_ NB366_368.out _; exact bx BK366.out) hb); replace BK368 := As.mk (blk_below (g := gb368) (o := .cells #[.int .i64 ((rd_T88 l0_0 a2).f0), .int .i64 ((rd_T88 l0_0 a2).f1), .string ((rd_T88 l0_0 a2).f2), .slice A367_3 ((rd_T88 l0_0 a2).f3).length c367_3] 88 (0, 0)) (by refine pl ?_; refine blk_put (cs := #[.int .i64 ((rd_T88 l0_0 a2).f0), .int .i64 ((rd_T88 l0_0 a2).f1), .string ((rd_T88 l0_0 a2).f2), .slice none 0 0]) ?_ 3 _ rfl; refine pl ?_; refine blk_put (cs := #[.int .i64 ((rd_T88 l0_0 a2).f0), .int .i64 ((rd_T88 l0_0 a2).f1), .string (⟨#[]⟩ : ByteArray), .slice none 0 0]) ?_ 2 _ rfl; refine pl ?_; refine blk_put (cs := #[.int .i64 ((rd_T88 l0_0 a2).f0), .int .i64 0, .string (⟨#[]⟩ : ByteArray), .slice none 0 0]) ?_ 1 _ rfl; refine pl ?_; refine blk_put (cs := #[.int .i64 0, .int .i64 0, .string (⟨#[]⟩ : ByteArray), .slice none 0 0]) ?_ 0 _ rfl; exact bx BK368.out) hb); replace HB := As.mk (below_step (be w) hb); (try clear hb); (try clear hb2); (try clear hk); (try clear hi)))
 (try simp only [pk])
 go_cut [34] (fun v34 wc => ∃ (kq : Nat) (x34_6 : Bool), v34 = .bool x34_6 ∧ As (impl_callRight.j0 kq l1 t369 x34_6 l0_0 l0_1 ((rd_T88 l0_0 a2).f0) ((rd_T88 l0_0 a2).f1) ((rd_T88 l0_0 a2).f2) ((rd_T88 l0_0 a2).f3) = some r) ∧ As (kq ≤ k) ∧ As (wc.heap[gb366]? = some (.cells #[(.slice (some ad367) l0_0.length c0_0), (.slice A0_1 l0_1.length c0_1)] 43 (0, 0))) ∧ As (wc.heap[gb368]? = some (.cells #[.int .i64 ((rd_T88 l0_0 a2).f0), .int .i64 ((rd_T88 l0_0 a2).f1), .string ((rd_T88 l0_0 a2).f2), (.slice A367_3 ((rd_T88 l0_0 a2).f3).length c367_3)] 88 (0, 0))) ∧ As (Below w.heap.size w wc))
 case first =>
  have H := HC7.out
  clear HC7
  by_cases c15 : t369 < 0
  ·
   rw [if_pos c15] at H
   have c15b0 : decide (t369 < 0) = true := decide_eq_true c15
   clear c15
   (first | rw [c15b0] | (simp only [i64_w, i32_w]; rw [c15b0]) | skip)
   have H' := As.mk H
   clear H
   try go_wp2
   replace BK366 := As.mk (blk_drew BK366.out)
   replace BK368 := As.mk (blk_drew BK368.out)
   replace HB := As.mk (below_drew1 HB.out)
   refine start_ (n := 15) (S := fun w' => True) (ds := []) #[O, O, O, O, O, O, O, O, O, O, O, O, O, O, O] (by kernel_rfl) rfl rfl trivial (fun hHeld => ?_); refine with_tabW impl_callRight.tab3 impl_callRight.bits3 (fun HT_ HW_ => ?_)
   generalize w14.drew = w16 at BK366 BK368 HB hHeld ⊢
   refine pure_ (i := 0) (N := some 20) (v := ?_) (a' := ?_) #[I, O, O, O, O, O, O, O, O, O, O, O, O, O, O] rfl rfl (any_of HT_.out (by kernel_rfl)) (fun _ _ _ h => h) (Or.inl ⟨by rfl, ?_⟩) ?_ ?_
   rotate_left; · intro w'; go_simp; with_reducible rfl
   rotate_left; · simp only [pk, i64_w, i32_w]; rfl
   refine pure_ (i := 1) (N := some 21) (v := ?_) (a' := ?_) #[I, I, O, O, O, O, O, O, O, O, O, O, O, O, O] rfl rfl (any_of HT_.out (by kernel_rfl)) (fun _ _ _ h => h) (Or.inl ⟨by rfl, ?_⟩) ?_ ?_
   rotate_left; · intro w'; go_simp; with_reducible rfl
   rotate_left; · simp only [pk, i64_w, i32_w]; rfl
   refine pure_ (i := 2) (N := some 22) (v := ?_) (a' := ?_) #[I, I, I, O, O, O, O, O, O, O, O, O, O, O, O] rfl rfl (any_of HT_.out (by kernel_rfl)) (fun _ _ _ h => h) (Or.inl ⟨by rfl, ?_⟩) ?_ ?_
   rotate_left; · intro w'; go_simp; with_reducible rfl
   rotate_left; · simp only [pk, i64_w, i32_w]; rfl
   refine pure_ (i := 3) (N := some 23) (v := undef) (a' := ?_) #[I, I, I, I, O, O, O, O, O, O, O, O, O, O, O] rfl rfl (any_of HT_.out (by kernel_rfl)) (fun _ _ _ h => h) (Or.inr ⟨by rfl, rfl⟩) ?_ ?_
   rotate_left; · simp only [pk, i64_w, i32_w]; rfl
   refine pure_ (i := 4) (N := some 24) (v := undef) (a' := ?_) #[I, I, I, I, I, O, O, O, O, O, O, O, O, O, O] rfl rfl (any_of HT_.out (by kernel_rfl)) (fun _ _ _ h => h) (Or.inr ⟨by rfl, rfl⟩) ?_ ?_
   rotate_left; · simp only [pk, i64_w, i32_w]; rfl
   refine pure_ (i := 5) (N := some 25) (v := undef) (a' := ?_) #[I, I, I, I, I, I, O, O, O, O, O, O, O, O, O] rfl rfl (any_of HT_.out (by kernel_rfl)) (fun _ _ _ h => h) (Or.inr ⟨by rfl, rfl⟩) ?_ ?_
   rotate_left; · simp only [pk, i64_w, i32_w]; rfl
   refine pure_ (i := 6) (N := some 26) (v := undef) (a' := ?_) #[I, I, I, I, I, I, I, O, O, O, O, O, O, O, O] rfl rfl (any_of HT_.out (by kernel_rfl)) (fun _ _ _ h => h) (Or.inr ⟨by rfl, rfl⟩) ?_ ?_
   rotate_left; · simp only [pk, i64_w, i32_w]; rfl
   refine pure_ (i := 7) (N := some 27) (v := undef) (a' := ?_) #[I, I, I, I, I, I, I, I, O, O, O, O, O, O, O] rfl rfl (any_of HT_.out (by kernel_rfl)) (fun _ _ _ h => h) (Or.inr ⟨by rfl, rfl⟩) ?_ ?_
   rotate_left; · simp only [pk, i64_w, i32_w]; rfl
   refine pure_ (i := 8) (N := some 28) (v := undef) (a' := ?_) #[I, I, I, I, I, I, I, I, I, O, O, O, O, O, O] rfl rfl (any_of HT_.out (by kernel_rfl)) (fun _ _ _ h => h) (Or.inr ⟨by rfl, rfl⟩) ?_ ?_
   rotate_left; · simp only [pk, i64_w, i32_w]; rfl
   refine pure_ (i := 9) (N := some 29) (v := undef) (a' := ?_) #[I, I, I, I, I, I, I, I, I, I, O, O, O, O, O] rfl rfl (any_of HT_.out (by kernel_rfl)) (fun _ _ _ h => h) (Or.inr ⟨by rfl, rfl⟩) ?_ ?_
   rotate_left; · simp only [pk, i64_w, i32_w]; rfl
   refine pure_ (i := 10) (N := some 30) (v := undef) (a' := ?_) #[I, I, I, I, I, I, I, I, I, I, I, O, O, O, O] rfl rfl (any_of HT_.out (by kernel_rfl)) (fun _ _ _ h => h) (Or.inr ⟨by rfl, rfl⟩) ?_ ?_
   rotate_left; · simp only [pk, i64_w, i32_w]; rfl
   refine pure_ (i := 11) (N := some 31) (v := undef) (a' := ?_) #[I, I, I, I, I, I, I, I, I, I, I, I, O, O, O] rfl rfl (any_of HT_.out (by kernel_rfl)) (fun _ _ _ h => h) (Or.inr ⟨by rfl, rfl⟩) ?_ ?_
   rotate_left; · simp only [pk, i64_w, i32_w]; rfl
   refine pure_ (i := 12) (N := some 32) (v := undef) (a' := ?_) #[I, I, I, I, I, I, I, I, I, I, I, I, I, O, O] rfl rfl (any_of HT_.out (by kernel_rfl)) (fun _ _ _ h => h) (Or.inr ⟨by rfl, rfl⟩) ?_ ?_
   rotate_left; · simp only [pk, i64_w, i32_w]; rfl
   refine pure_ (i := 13) (N := some 33) (v := undef) (a' := ?_) #[I, I, I, I, I, I, I, I, I, I, I, I, I, I, O] rfl rfl (any_of HT_.out (by kernel_rfl)) (fun _ _ _ h => h) (Or.inr ⟨by rfl, rfl⟩) ?_ ?_
   rotate_left; · simp only [pk, i64_w, i32_w]; rfl
   refine pure_ (i := 14) (N := some 34) (v := ?_) (a' := ?_) #[I, I, I, I, I, I, I, I, I, I, I, I, I, I, I] rfl rfl (any_of HT_.out (by kernel_rfl)) (fun _ _ _ h => h) (Or.inl ⟨by rfl, ?_⟩) ?_ ?_
   rotate_left; · intro w'; go_simp; with_reducible rfl
   rotate_left; · simp only [pk, i64_w, i32_w]; rfl
   refine done_ (done_of HT_.out (by kernel_rfl)) ?_
   try go_wp2
   go_meet
   case rel => exact ⟨_, (true), (by first | rfl | (simp; done) | (simp [*]; done)), H', ⟨by first | omega | exact Nat.le_refl _⟩, ⟨bx BK366.out⟩, ⟨bx BK368.out⟩, ⟨be w⟩⟩
  rw [if_neg c15] at H
  have c15b0 : decide (t369 < 0) = false := decide_eq_false c15
  clear c15
  (first | rw [c15b0] | (simp only [i64_w, i32_w]; rw [c15b0]) | skip)
  by_cases c17 : 0 ≤ t369
  rotate_left; · rw [if_neg c17] at H; exact absurd H (by simp)
  rw [if_pos c17] at H
  have c17b0 : decide (0 ≤ t369) = true := decide_eq_true c17
  clear c17
  by_cases c18 : t369 < (l0_1.length : Int)
  rotate_left; · rw [if_neg c18] at H; exact absurd H (by simp)
  rw [if_pos c18] at H
  have c18b0 : decide (t369 < (l0_1.length : Int)) = true := decide_eq_true c18
  clear c18
  have H' := As.mk H
  clear H
  try go_wp2
  replace BK366 := As.mk (blk_drew BK366.out)
  replace BK368 := As.mk (blk_drew BK368.out)
  replace HB := As.mk (below_drew1 HB.out)
  have p370 : 0 ≤ (t369 : Int) := od
  have q370 : t369 < (l0_1.length : Int) := od
  obtain ⟨ad370, A370_1, c370_1, e370, hx370_0, hx370_1, hx370_2, hx370_3, hx370_4, hl370_1, hi370_1⟩ := at_T125 HR0_1.out t369 p370 q370
  have hw370_4 := hx370_4
  have hw370_3 := hx370_3
  have hw370_2 := hx370_2
  have hw370_1 := hx370_1
  have hw370_0 := hx370_0
  cases e370
  replace hx370_0 := ce HB.out hx370_0
  replace hx370_1 := ce HB.out hx370_1
  replace hx370_2 := ce HB.out hx370_2
  replace hx370_3 := ce HB.out hx370_3
  replace hx370_4 := ce HB.out hx370_4
  have HR370_1 := As.mk hi370_1
  have HC370_1 := As.mk hl370_1
  clear hi370_1 hl370_1
  replace p370 := eq_true p370
  replace q370 := eq_true q370
  refine start_ (n := 15) (S := fun w' => w'.cell? ⟨gb366, 0, none⟩ = some (.slice (some ad367) l0_0.length c0_0) ∧ w'.cell? ⟨gb366, 1, none⟩ = some (.slice (some ad370) l0_1.length c0_1) ∧ w'.cell? ⟨gb368, 0, none⟩ = some (.int .i64 ((rd_T88 l0_0 a2).f0)) ∧ w'.cell? ⟨gb368, 1, none⟩ = some (.int .i64 ((rd_T88 l0_0 a2).f1)) ∧ w'.cell? ⟨gb368, 2, none⟩ = some (.string ((rd_T88 l0_0 a2).f2)) ∧ w'.cell? ⟨gb368, 3, none⟩ = some (.slice A367_3 ((rd_T88 l0_0 a2).f3).length c367_3) ∧ w'.cell? (ad370.add ((t369).toNat * 5)) = some (.string ((rd_T125 l0_1 t369).f0)) ∧ w'.cell? ⟨(ad370.add ((t369).toNat * 5)).block, (ad370.add ((t369).toNat * 5)).off + 1, none⟩ = some (.slice A370_1 ((rd_T125 l0_1 t369).f1).length c370_1) ∧ w'.cell? ⟨(ad370.add ((t369).toNat * 5)).block, (ad370.add ((t369).toNat * 5)).off + 2, none⟩ = some (.int .i64 ((rd_T125 l0_1 t369).f2)) ∧ w'.cell? ⟨(ad370.add ((t369).toNat * 5)).block, (ad370.add ((t369).toNat * 5)).off + 3, none⟩ = some (.int .i64 ((rd_T125 l0_1 t369).f3)) ∧ w'.cell? ⟨(ad370.add ((t369).toNat * 5)).block, (ad370.add ((t369).toNat * 5)).off + 4, none⟩ = some (.int .i64 ((rd_T125 l0_1 t369).f4))) (ds := []) #[O, O, O, O, O, O, O, O, O, O, O, O, O, O, O] (by kernel_rfl) rfl rfl ⟨(blk_cell BK366.out 0).trans rfl, (blk_cell BK366.out 1).trans rfl, (blk_cell BK368.out 0).trans rfl, (blk_cell BK368.out 1).trans rfl, (blk_cell BK368.out 2).trans rfl, (blk_cell BK368.out 3).trans rfl, (ce HB.out hw370_0 :), (ce HB.out hw370_1 :), (ce HB.out hw370_2 :), (ce HB.out hw370_3 :), (ce HB.out hw370_4 :)⟩ (fun hHeld => ?_); refine with_tabW impl_callRight.tab3 impl_callRight.bits3 (fun HT_ HW_ => ?_)
  generalize w14.drew = w19 at BK366 BK368 HB HR370_1 hx370_0 hx370_1 hx370_2 hx370_3 hx370_4 hHeld ⊢
  refine pure_ (i := 0) (N := some 20) (v := ?_) (a' := ?_) #[I, O, O, O, O, O, O, O, O, O, O, O, O, O, O] rfl rfl (any_of HT_.out (by kernel_rfl)) (fun _ _ _ h => h) (Or.inl ⟨by rfl, ?_⟩) ?_ ?_
  rotate_left; · intro w'; go_simp; with_reducible rfl
  rotate_left; · simp only [pk, i64_w, i32_w]; rfl
  refine pure_ (i := 1) (N := some 21) (v := ?_) (a' := ?_) #[I, I, O, O, O, O, O, O, O, O, O, O, O, O, O] rfl rfl (any_of HT_.out (by kernel_rfl)) (fun _ _ _ h => h) (Or.inl ⟨by rfl, ?_⟩) ?_ ?_
  rotate_left; · intro w'; go_simp; with_reducible rfl
  rotate_left; · simp only [pk, i64_w, i32_w]; rfl
  refine pure_ (i := 2) (N := some 22) (v := ?_) (a' := ?_) #[I, I, I, O, O, O, O, O, O, O, O, O, O, O, O] rfl rfl (any_of HT_.out (by kernel_rfl)) (fun _ _ _ h => h) (Or.inl ⟨by rfl, ?_⟩) ?_ ?_
  rotate_left; · intro w'; go_simp; with_reducible rfl
  rotate_left; · simp only [pk, i64_w, i32_w]; rfl
  refine pure_ (i := 3) (N := some 23) (v := ?_) (a' := ?_) #[I, I, I, I, O, O, O, O, O, O, O, O, O, O, O] rfl rfl (any_of HT_.out (by kernel_rfl)) (fun _ _ _ h => h) (Or.inl ⟨by rfl, ?_⟩) ?_ ?_
  rotate_left; · intro w'; go_simp; with_reducible rfl
  rotate_left; · simp only [pk, i64_w, i32_w]; rfl
  refine pure_ (i := 5) (N := some 25) (v := ?_) (a' := ?_) #[I, I, I, I, O, I, O, O, O, O, O, O, O, O, O] rfl rfl (any_of HT_.out (by kernel_rfl)) (fun _ _ _ h => h) (Or.inl ⟨by rfl, ?_⟩) ?_ ?_
  rotate_left; · intro w'; go_simp; with_reducible rfl
  rotate_left; · simp only [pk, i64_w, i32_w]; rfl
  refine pure_ (i := 10) (N := some 30) (v := ?_) (a' := ?_) #[I, I, I, I, O, I, O, O, O, O, I, O, O, O, O] rfl rfl (any_of HT_.out (by kernel_rfl)) (fun _ _ _ h => h) (Or.inl ⟨by rfl, ?_⟩) ?_ ?_
  rotate_left; · intro w'; go_simp; with_reducible rfl
  rotate_left; · simp only [pk, i64_w, i32_w]; rfl
  refine take_ (i := 4) (N := some 24) (v := ?_) (a' := ?_) #[I, I, I, I, I, I, O, O, O, O, I, O, O, O, O] rfl rfl (take_ofW HT_.out HW_.out (by kernel_rfl)) (fun _ _ _ h => h) (Or.inl ⟨by rfl, ?_⟩) hHeld ?_ ?_
  rotate_left; · rintro w' ⟨s0, s1, s2, s3, s4, s5, s6, s7, s8, s9, s10⟩; go_simp; with_reducible rfl
  rotate_left; · simp only [pk, i64_w, i32_w]; rfl
  refine pure_ (i := 6) (N := some 26) (v := ?_) (a' := ?_) #[I, I, I, I, I, I, I, O, O, O, I, O, O, O, O] rfl rfl (any_of HT_.out (by kernel_rfl)) (fun _ _ _ h => h) (Or.inl ⟨by rfl, ?_⟩) ?_ ?_
  rotate_left; · intro w'; go_simp; with_reducible rfl
  rotate_left; · simp only [pk, i64_w, i32_w]; rfl
  refine pure_ (i := 7) (N := some 27) (v := ?_) (a' := ?_) #[I, I, I, I, I, I, I, I, O, O, I, O, O, O, O] rfl rfl (any_of HT_.out (by kernel_rfl)) (fun _ _ _ h => h) (Or.inl ⟨by rfl, ?_⟩) ?_ ?_
  rotate_left; · intro w'; go_simp; with_reducible rfl
  rotate_left; · simp only [pk, i64_w, i32_w]; rfl
  refine take_ (i := 8) (N := some 28) (v := ?_) (a' := ?_) #[I, I, I, I, I, I, I, I, I, O, I, O, O, O, O] rfl rfl (take_ofW HT_.out HW_.out (by kernel_rfl)) (fun _ _ _ h => h) (Or.inl ⟨by rfl, ?_⟩) hHeld ?_ ?_
  rotate_left; · rintro w' ⟨s0, s1, s2, s3, s4, s5, s6, s7, s8, s9, s10⟩; go_simp; with_reducible rfl
  rotate_left; · simp only [pk, i64_w, i32_w]; rfl
  refine pure_ (i := 9) (N := some 29) (v := ?_) (a' := ?_) #[I, I, I, I, I, I, I, I, I, I, I, O, O, O, O] rfl rfl (any_of HT_.out (by kernel_rfl)) (fun _ _ _ h => h) (Or.inl ⟨by rfl, ?_⟩) ?_ ?_
  rotate_left; · intro w'; go_simp; with_reducible rfl
  rotate_left; · simp only [pk, i64_w, i32_w]; rfl
  refine take_ (i := 11) (N := some 31) (v := ?_) (a' := ?_) #[I, I, I, I, I, I, I, I, I, I, I, I, O, O, O] rfl rfl (take_ofW HT_.out HW_.out (by kernel_rfl)) (fun _ _ _ h => h) (Or.inl ⟨by rfl, ?_⟩) hHeld ?_ ?_
  rotate_left; · rintro w' ⟨s0, s1, s2, s3, s4, s5, s6, s7, s8, s9, s10⟩; go_simp; with_reducible rfl
  rotate_left; · simp only [pk, i64_w, i32_w]; rfl
  refine pure_ (i := 12) (N := some 32) (v := ?_) (a' := ?_) #[I, I, I, I, I, I, I, I, I, I, I, I, I, O, O] rfl rfl (any_of HT_.out (by kernel_rfl)) (fun _ _ _ h => h) (Or.inl ⟨by rfl, ?_⟩) ?_ ?_
  rotate_left; · intro w'; go_simp; with_reducible rfl
  rotate_left; · simp only [pk, i64_w, i32_w]; rfl
  refine pure_ (i := 13) (N := some 33) (v := ?_) (a' := ?_) #[I, I, I, I, I, I, I, I, I, I, I, I, I, I, O] rfl rfl (any_of HT_.out (by kernel_rfl)) (fun _ _ _ h => h) (Or.inl ⟨by rfl, ?_⟩) ?_ ?_
  rotate_left; · intro w'; go_simp; with_reducible rfl
  rotate_left; · simp only [pk, i64_w, i32_w]; rfl
  refine pure_ (i := 14) (N := some 34) (v := ?_) (a' := ?_) #[I, I, I, I, I, I, I, I, I, I, I, I, I, I, I] rfl rfl (any_of HT_.out (by kernel_rfl)) (fun _ _ _ h => h) (Or.inl ⟨by rfl, ?_⟩) ?_ ?_
  rotate_left; · intro w'; go_simp; with_reducible rfl
  rotate_left; · simp only [pk, i64_w, i32_w]; rfl
  refine done_ (done_of HT_.out (by kernel_rfl)) ?_
  try go_wp2
  go_meet
  case rel => exact ⟨_, (((((rd_T125 l0_1 t369).f1).length : Int) != (((rd_T88 l0_0 a2).f3).length : Int))), (by first | rfl | (simp; done) | (simp [*]; done)), H', ⟨by first | omega | exact Nat.le_refl _⟩, ⟨bx BK366.out⟩, ⟨bx BK368.out⟩, ⟨be w⟩⟩
 case rest =>
  clear HC7
  (try clear c1); (try clear c4); (try clear c4b0); (try clear c5); (try clear c5b0); (try clear hcz12_0); (try clear hcz12_1); (try clear hcz12_2); (try clear hcz12_3); (try clear hcz13_0); (try clear hcz13_1); (try clear hcz9_0); (try clear hcz9_1); (try clear hfz12_0); (try clear hfz12_1); (try clear hfz12_2); (try clear hfz12_3); (try clear hfz13_0); (try clear hfz13_1); (try clear hfz9_0); (try clear hfz9_1); (try clear hx367_0); (try clear hx367_1); (try clear hx367_2); (try clear hx367_3); (try clear p367); (try clear q367)
  obtain ⟨kq, x34_6, rfl, HA, HJ6, BK366, BK368, HB⟩ := hcut
  cases kq with
  | zero => exact absurd HA.out (by simp [impl_callRight.j0])
  | succ kj6 =>
   have H := HA.out
   clear HA
   simp only [impl_callRight.j0] at H
   by_cases c20 : x34_6 = true
   ·
    subst c20
    rw [if_pos rfl] at H
    obtain rfl := Option.some.inj H
    go_wp2
    go_ret
    exact (ew (be w))
   replace c20 := Bool.eq_false_iff.mpr c20
   subst c20
   rw [if_neg (show ¬ (false = true) by decide)] at H
   have H' := As.mk H
   clear H
   have hnb21 := NB368_366.out
   have hnc21 := NB366_368.out
   obtain ⟨hcz22_0, hcz22_1, hcz22_2, hcz22_3, hfz22_0, hfz22_1, hfz22_2, hfz22_3⟩ := cl4 BK368.out
   go_wp2
   go_loopg [38] kj6 (fun kq v38 w' => ∃ (x38_2 : Int), v38 = .int .i64 x38_2 ∧ As (impl_callRight.l0 kq l1 t369 ((rd_T88 l0_0 a2).f3) (((rd_T88 l0_0 a2).f3).length : Int) x38_2 l0_0 l0_1 = some r) ∧ As (kq ≤ kj6) ∧ As (w'.heap[gb366]? = some (.cells #[(.slice (some ad367) l0_0.length c0_0), (.slice A0_1 l0_1.length c0_1)] 43 (0, 0))) ∧ As (w'.heap[gb368]? = some (.cells #[.int .i64 ((rd_T88 l0_0 a2).f0), .int .i64 ((rd_T88 l0_0 a2).f1), .string ((rd_T88 l0_0 a2).f2), (.slice A367_3 ((rd_T88 l0_0 a2).f3).length c367_3)] 88 (0, 0))) ∧ As (Below w.heap.size w w'))
   case atStart => exact ⟨(0), (by first | rfl | (simp; done) | (simp [*]; done)), H', ⟨Nat.le_refl _⟩, ⟨bx BK366.out⟩, ⟨bx BK368.out⟩, ⟨be w⟩⟩
   case round =>
    clear H'
    (try clear c1); (try clear c4); (try clear c4b0); (try clear c5); (try clear c5b0); (try clear c20); (try clear hcz12_0); (try clear hcz12_1); (try clear hcz12_2); (try clear hcz12_3); (try clear hcz13_0); (try clear hcz13_1); (try clear hcz22_0); (try clear hcz22_1); (try clear hcz22_2); (try clear hcz22_3); (try clear hcz9_0); (try clear hcz9_1); (try clear hfz12_0); (try clear hfz12_1); (try clear hfz12_2); (try clear hfz12_3); (try clear hfz13_0); (try clear hfz13_1); (try clear hfz22_0); (try clear hfz22_1); (try clear hfz22_2); (try clear hfz22_3); (try clear hfz9_0); (try clear hfz9_1); (try clear hx367_0); (try clear hx367_1); (try clear hx367_2); (try clear hx367_3); (try clear p367); (try clear q367)
    obtain ⟨x38_2, rfl, HA, HK2, BK366, BK368, HB⟩ := hrel
    cases gk with
    | zero => exact absurd HA.out (by simp [impl_callRight.l0])
    | succ k2 =>
     have H := HA.out
     clear HA
     simp only [impl_callRight.l0] at H
     by_cases c23 : x38_2 < (((rd_T88 l0_0 a2).f3).length : Int)
     rotate_left
     ·
      rw [if_neg c23] at H
      have c23b0 : decide (x38_2 < (((rd_T88 l0_0 a2).f3).length : Int)) = false := decide_eq_false c23
      clear c23
      obtain rfl := Option.some.inj H
      go_wp2
      go_ret
      exact (ew (be w))
     rw [if_pos c23] at H
     have c23b0 : decide (x38_2 < (((rd_T88 l0_0 a2).f3).length : Int)) = true := decide_eq_true c23
     clear c23
     by_cases c24 : 0 ≤ x38_2
     rotate_left; · rw [if_neg c24] at H; exact absurd H (by simp)
     rw [if_pos c24] at H
     have c24b0 : decide (0 ≤ x38_2) = true := decide_eq_true c24
     clear c24
     by_cases c25 : x38_2 < (((rd_T88 l0_0 a2).f3).length : Int)
     rotate_left; · rw [if_neg c25] at H; exact absurd H (by simp)
     rw [if_pos c25] at H
     have c25b0 : decide (x38_2 < (((rd_T88 l0_0 a2).f3).length : Int)) = true := decide_eq_true c25
     clear c25
     obtain ⟨t372, A260, H⟩ := Option.bind_eq_some_iff.mp H
     try dsimp only at H
     have A26 := As.mk A260
     clear A260
     by_cases c27 : 0 ≤ t369
     rotate_left; · rw [if_neg c27] at H; exact absurd H (by simp)
     rw [if_pos c27] at H
     have c27b0 : decide (0 ≤ t369) = true := decide_eq_true c27
     clear c27
     by_cases c28 : t369 < (l0_1.length : Int)
     rotate_left; · rw [if_neg c28] at H; exact absurd H (by simp)
     rw [if_pos c28] at H
     have c28b0 : decide (t369 < (l0_1.length : Int)) = true := decide_eq_true c28
     clear c28
     by_cases c29 : x38_2 < (((rd_T125 l0_1 t369).f1).length : Int)
     rotate_left; · rw [if_neg c29] at H; exact absurd H (by simp)
     rw [if_pos c29] at H
     have c29b0 : decide (x38_2 < (((rd_T125 l0_1 t369).f1).length : Int)) = true := decide_eq_true c29
     clear c29
     by_cases c30 : t372 = ((rd_T147 ((rd_T125 l0_1 t369).f1) x38_2).f1)
     rotate_left
     ·
      rw [if_neg c30] at H
      have c30b0 : (t372 == ((rd_T147 ((rd_T125 l0_1 t369).f1) x38_2).f1)) = false := beq_eq_false_iff_ne.mpr c30
      have c30b1 : (t372 != ((rd_T147 ((rd_T125 l0_1 t369).f1) x38_2).f1)) = true := bne_iff_ne.mpr c30
      obtain rfl := Option.some.inj H
      have p371 : 0 ≤ (x38_2 : Int) := od
      have q371 : x38_2 < (((rd_T88 l0_0 a2).f3).length : Int) := od
      obtain ⟨ad371, e371, hx371_0⟩ := Kd.at_int HR367_3.out x38_2 p371 q371
      cases e371
      replace hx371_0 := ce HB.out hx371_0
      replace p371 := eq_true p371
      replace q371 := eq_true q371
      try go_wp2
      replace BK366 := As.mk (blk_drew BK366.out)
      replace BK368 := As.mk (blk_drew BK368.out)
      replace HB := As.mk (below_drew1 HB.out)
      have p373 : 0 ≤ (t369 : Int) := od
      have q373 : t369 < (l0_1.length : Int) := od
      obtain ⟨ad373, A373_1, c373_1, e373, hx373_0, hx373_1, hx373_2, hx373_3, hx373_4, hl373_1, hi373_1⟩ := at_T125 HR0_1.out t369 p373 q373
      have hw373_4 := hx373_4
      have hw373_3 := hx373_3
      have hw373_2 := hx373_2
      have hw373_1 := hx373_1
      have hw373_0 := hx373_0
      cases e373
      replace hx373_0 := ce HB.out hx373_0
      replace hx373_1 := ce HB.out hx373_1
      replace hx373_2 := ce HB.out hx373_2
      replace hx373_3 := ce HB.out hx373_3
      replace hx373_4 := ce HB.out hx373_4
      have HR373_1 := As.mk hi373_1
      have HC373_1 := As.mk hl373_1
      clear hi373_1 hl373_1
      replace p373 := eq_true p373
      replace q373 := eq_true q373
      have p374 : 0 ≤ (x38_2 : Int) := od
      have q374 : x38_2 < (((rd_T125 l0_1 t369).f1).length : Int) := od
      obtain ⟨ad374, e374, hx374_0, hx374_1⟩ := at_T147 HR373_1.out x38_2 p374 q374
      have hw374_1 := hx374_1
      have hw374_0 := hx374_0
      cases e374
      replace hx374_0 := ce HB.out hx374_0
      replace hx374_1 := ce HB.out hx374_1
      replace p374 := eq_true p374
      replace q374 := eq_true q374
      refine start_ (n := 15) (S := fun w' => w'.cell? ⟨gb366, 0, none⟩ = some (.slice (some ad367) l0_0.length c0_0) ∧ w'.cell? ⟨gb366, 1, none⟩ = some (.slice (some ad373) l0_1.length c0_1) ∧ w'.cell? (ad373.add ((t369).toNat * 5)) = some (.string ((rd_T125 l0_1 t369).f0)) ∧ w'.cell? ⟨(ad373.add ((t369).toNat * 5)).block, (ad373.add ((t369).toNat * 5)).off + 1, none⟩ = some (.slice (some ad374) ((rd_T125 l0_1 t369).f1).length c373_1) ∧ w'.cell? ⟨(ad373.add ((t369).toNat * 5)).block, (ad373.add ((t369).toNat * 5)).off + 2, none⟩ = some (.int .i64 ((rd_T125 l0_1 t369).f2)) ∧ w'.cell? ⟨(ad373.add ((t369).toNat * 5)).block, (ad373.add ((t369).toNat * 5)).off + 3, none⟩ = some (.int .i64 ((rd_T125 l0_1 t369).f3)) ∧ w'.cell? ⟨(ad373.add ((t369).toNat * 5)).block, (ad373.add ((t369).toNat * 5)).off + 4, none⟩ = some (.int .i64 ((rd_T125 l0_1 t369).f4)) ∧ w'.cell? (ad374.add ((x38_2).toNat * 2)) = some (.string ((rd_T147 ((rd_T125 l0_1 t369).f1) x38_2).f0)) ∧ w'.cell? ⟨(ad374.add ((x38_2).toNat * 2)).block, (ad374.add ((x38_2).toNat * 2)).off + 1, none⟩ = some (.int .i64 ((rd_T147 ((rd_T125 l0_1 t369).f1) x38_2).f1))) (ds := []) #[O, O, O, O, O, O, O, O, O, O, O, O, O, O, O] (by kernel_rfl) rfl rfl ⟨(blk_cell BK366.out 0).trans rfl, (blk_cell BK366.out 1).trans rfl, (ce HB.out hw373_0 :), (ce HB.out hw373_1 :), (ce HB.out hw373_2 :), (ce HB.out hw373_3 :), (ce HB.out hw373_4 :), (ce HB.out hw374_0 :), (ce HB.out hw374_1 :)⟩ (fun hHeld => ?_); refine with_tabW impl_callRight.tab8 impl_callRight.bits8 (fun HT_ HW_ => ?_)
      generalize wr.drew = w33 at BK366 BK368 HB HR373_1 hx373_0 hx373_1 hx373_2 hx373_3 hx373_4 hx374_0 hx374_1 hHeld ⊢
      refine pure_ (i := 1) (N := some 44) (v := ?_) (a' := ?_) #[O, I, O, O, O, O, O, O, O, O, O, O, O, O, O] rfl rfl (any_of HT_.out (by kernel_rfl)) (fun _ _ _ h => h) (Or.inl ⟨by rfl, ?_⟩) ?_ ?_
      rotate_left; · intro w'; go_simp; with_reducible rfl
      rotate_left; · simp only [pk, i64_w, i32_w]; rfl
      refine pure_ (i := 2) (N := some 45) (v := ?_) (a' := ?_) #[O, I, I, O, O, O, O, O, O, O, O, O, O, O, O] rfl rfl (any_of HT_.out (by kernel_rfl)) (fun _ _ _ h => h) (Or.inl ⟨by rfl, ?_⟩) ?_ ?_
      rotate_left; · intro w'; go_simp; with_reducible rfl
      rotate_left; · simp only [pk, i64_w, i32_w]; rfl
      refine pure_ (i := 4) (N := some 47) (v := ?_) (a' := ?_) #[O, I, I, O, I, O, O, O, O, O, O, O, O, O, O] rfl rfl (any_of HT_.out (by kernel_rfl)) (fun _ _ _ h => h) (Or.inl ⟨by rfl, ?_⟩) ?_ ?_
      rotate_left; · intro w'; go_simp; with_reducible rfl
      rotate_left; · simp only [pk, i64_w, i32_w]; rfl
      refine pure_ (i := 6) (N := some 49) (v := ?_) (a' := ?_) #[O, I, I, O, I, O, I, O, O, O, O, O, O, O, O] rfl rfl (any_of HT_.out (by kernel_rfl)) (fun _ _ _ h => h) (Or.inl ⟨by rfl, ?_⟩) ?_ ?_
      rotate_left; · intro w'; go_simp; with_reducible rfl
      rotate_left; · simp only [pk, i64_w, i32_w]; rfl
      refine pure_ (i := 10) (N := some 53) (v := ?_) (a' := ?_) #[O, I, I, O, I, O, I, O, O, O, I, O, O, O, O] rfl rfl (any_of HT_.out (by kernel_rfl)) (fun _ _ _ h => h) (Or.inl ⟨by rfl, ?_⟩) ?_ ?_
      rotate_left; · intro w'; go_simp; with_reducible rfl
      rotate_left; · simp only [pk, i64_w, i32_w]; rfl
      refine take_ (i := 0) (N := some 43) (v := ?_) (a' := ?_) #[I, I, I, O, I, O, I, O, O, O, I, O, O, O, O] rfl rfl (take_ofW HT_.out HW_.out (by kernel_rfl)) (fun _ _ _ h => h) (Or.inl ⟨by rfl, ?_⟩) hHeld ?_ ?_
      rotate_left; · rintro w' ⟨s0, s1, s2, s3, s4, s5, s6, s7, s8⟩; go_simp; with_reducible rfl
      rotate_left; · simp only [pk, i64_w, i32_w]; rfl
      refine take_ (i := 5) (N := some 48) (v := ?_) (a' := ?_) #[I, I, I, O, I, I, I, O, O, O, I, O, O, O, O] rfl rfl (take_ofW HT_.out HW_.out (by kernel_rfl)) (fun _ _ _ h => h) (Or.inl ⟨by rfl, ?_⟩) hHeld ?_ ?_
      rotate_left; · rintro w' ⟨s0, s1, s2, s3, s4, s5, s6, s7, s8⟩; go_simp; with_reducible rfl
      rotate_left; · simp only [pk, i64_w, i32_w]; rfl
      refine pure_ (i := 7) (N := some 50) (v := ?_) (a' := ?_) #[I, I, I, O, I, I, I, I, O, O, I, O, O, O, O] rfl rfl (any_of HT_.out (by kernel_rfl)) (fun _ _ _ h => h) (Or.inl ⟨by rfl, ?_⟩) ?_ ?_
      rotate_left; · intro w'; go_simp; with_reducible rfl
      rotate_left; · simp only [pk, i64_w, i32_w]; rfl
      refine pure_ (i := 8) (N := some 51) (v := ?_) (a' := ?_) #[I, I, I, O, I, I, I, I, I, O, I, O, O, O, O] rfl rfl (any_of HT_.out (by kernel_rfl)) (fun _ _ _ h => h) (Or.inl ⟨by rfl, ?_⟩) ?_ ?_
      rotate_left; · intro w'; go_simp; with_reducible rfl
      rotate_left; · simp only [pk, i64_w, i32_w]; rfl
      refine take_ (i := 9) (N := some 52) (v := ?_) (a' := ?_) #[I, I, I, O, I, I, I, I, I, I, I, O, O, O, O] rfl rfl (take_ofW HT_.out HW_.out (by kernel_rfl)) (fun _ _ _ h => h) (Or.inl ⟨by rfl, ?_⟩) hHeld ?_ ?_
      rotate_left; · rintro w' ⟨s0, s1, s2, s3, s4, s5, s6, s7, s8⟩; go_simp; with_reducible rfl
      rotate_left; · simp only [pk, i64_w, i32_w]; rfl
      refine pure_ (i := 11) (N := some 54) (v := ?_) (a' := ?_) #[I, I, I, O, I, I, I, I, I, I, I, I, O, O, O] rfl rfl (any_of HT_.out (by kernel_rfl)) (fun _ _ _ h => h) (Or.inl ⟨by rfl, ?_⟩) ?_ ?_
      rotate_left; · intro w'; go_simp; with_reducible rfl
      rotate_left; · simp only [pk, i64_w, i32_w]; rfl
      refine pure_ (i := 12) (N := some 55) (v := ?_) (a' := ?_) #[I, I, I, O, I, I, I, I, I, I, I, I, I, O, O] rfl rfl (any_of HT_.out (by kernel_rfl)) (fun _ _ _ h => h) (Or.inl ⟨by rfl, ?_⟩) ?_ ?_
      rotate_left; · intro w'; go_simp; with_reducible rfl
      rotate_left; · simp only [pk, i64_w, i32_w]; rfl
      refine take_ (i := 13) (N := some 56) (v := ?_) (a' := ?_) #[I, I, I, O, I, I, I, I, I, I, I, I, I, I, O] rfl rfl (take_ofW HT_.out HW_.out (by kernel_rfl)) (fun _ _ _ h => h) (Or.inl ⟨by rfl, ?_⟩) hHeld ?_ ?_
      rotate_left; · rintro w' ⟨s0, s1, s2, s3, s4, s5, s6, s7, s8⟩; go_simp; with_reducible rfl
      rotate_left; · simp only [pk, i64_w, i32_w]; rfl
      refine one_ (i := 3) (N := some 46) #[I, I, I, I, I, I, I, I, I, I, I, I, I, I, O] rfl rfl (one_of HT_.out (by kernel_rfl)) (by decide) (fun K hK => ?_)
      refine goes_ Tryd.func76 (by kernel_rfl) rfl #[.agg #[.slice (some ad367) l0_0.length c0_0, .slice (some ad373) l0_1.length c0_1], .slice A1 l1.length c1, .int .i64 (rd ((rd_T88 l0_0 a2).f3) x38_2)] (by rfl) rfl rfl (by (try simp only [lm]); first | done | rfl | (simp only [List.length_drop, List.length_take]; rfl)) ?_
      with_reducible refine (ih_impl_typeOf k2 (by have := HJ6.out; have := HK2.out; omega) _ _ l0_0 _ _ l0_1 _ _ l1 (rd ((rd_T88 l0_0 a2).f3) x38_2) t372 _ ?side1 ?side2 ?side3 ?side4 ?side5 ?side6 A26.out).mono ?_
      (case side1 => exact Kd.C_below HR0_0.out (be w))
      (case side2 => exact HC0_0.out)
      (case side3 => exact Kd.C_below HR0_1.out (be w))
      (case side4 => exact HC0_1.out)
      (case side5 => exact Kd.C_below HR1.out (be w))
      (case side6 => exact HC1.out)
      rintro e w34 ⟨rfl, hb⟩
      refine ⟨_, rfl, ?_⟩
      replace BK366 := As.mk (blk_below (bx BK366.out) hb)
      replace BK368 := As.mk (blk_below (bx BK368.out) hb)
      replace HB := As.mk (below_step (be w) hb)
      (try clear hb)
      (try clear hb2)
      (try clear hk)
      (try clear hi)
      refine hK.out _ _ ⟨(blk_cell BK366.out 0).trans rfl, (blk_cell BK366.out 1).trans rfl, (ce HB.out hw373_0 :), (ce HB.out hw373_1 :), (ce HB.out hw373_2 :), (ce HB.out hw373_3 :), (ce HB.out hw373_4 :), (ce HB.out hw374_0 :), (ce HB.out hw374_1 :)⟩ (fun hHeld => ?_)
      clear hK K
      refine norm_ (a' := ?_) ?_ ?_
      rotate_left
      ·
       show Act.put _ (some 46) _ = _
       simp only [pk, i64_w, i32_w]
       rfl
      refine pure_ (i := 14) (N := some 57) (v := ?_) (a' := ?_) #[I, I, I, I, I, I, I, I, I, I, I, I, I, I, I] rfl rfl (any_of HT_.out (by kernel_rfl)) (fun _ _ _ h => h) (Or.inl ⟨by rfl, ?_⟩) ?_ ?_
      rotate_left; · intro w'; go_simp; with_reducible rfl
      rotate_left; · simp only [pk, i64_w, i32_w]; rfl
      refine done_ (done_of HT_.out (by kernel_rfl)) ?_
      try go_wp2
      go_ret
      exact (ew (be w))
     rw [if_pos c30] at H
     have c30b0 : (t372 == ((rd_T147 ((rd_T125 l0_1 t369).f1) x38_2).f1)) = true := beq_iff_eq.mpr c30
     have c30b1 : (t372 != ((rd_T147 ((rd_T125 l0_1 t369).f1) x38_2).f1)) = false := bne_eq_false_iff_eq.mpr c30
     clear c30
     have H' := As.mk H
     clear H
     have p371 : 0 ≤ (x38_2 : Int) := od
     have q371 : x38_2 < (((rd_T88 l0_0 a2).f3).length : Int) := od
     obtain ⟨ad371, e371, hx371_0⟩ := Kd.at_int HR367_3.out x38_2 p371 q371
     cases e371
     replace hx371_0 := ce HB.out hx371_0
     replace p371 := eq_true p371
     replace q371 := eq_true q371
     try go_wp2
     replace BK366 := As.mk (blk_drew BK366.out)
     replace BK368 := As.mk (blk_drew BK368.out)
     replace HB := As.mk (below_drew1 HB.out)
     have p373 : 0 ≤ (t369 : Int) := od
     have q373 : t369 < (l0_1.length : Int) := od
     obtain ⟨ad373, A373_1, c373_1, e373, hx373_0, hx373_1, hx373_2, hx373_3, hx373_4, hl373_1, hi373_1⟩ := at_T125 HR0_1.out t369 p373 q373
     have hw373_4 := hx373_4
     have hw373_3 := hx373_3
     have hw373_2 := hx373_2
     have hw373_1 := hx373_1
     have hw373_0 := hx373_0
     cases e373
     replace hx373_0 := ce HB.out hx373_0
     replace hx373_1 := ce HB.out hx373_1
     replace hx373_2 := ce HB.out hx373_2
     replace hx373_3 := ce HB.out hx373_3
     replace hx373_4 := ce HB.out hx373_4
     have HR373_1 := As.mk hi373_1
     have HC373_1 := As.mk hl373_1
     clear hi373_1 hl373_1
     replace p373 := eq_true p373
     replace q373 := eq_true q373
     have p374 : 0 ≤ (x38_2 : Int) := od
     have q374 : x38_2 < (((rd_T125 l0_1 t369).f1).length : Int) := od
     obtain ⟨ad374, e374, hx374_0, hx374_1⟩ := at_T147 HR373_1.out x38_2 p374 q374
     have hw374_1 := hx374_1
     have hw374_0 := hx374_0
     cases e374
     replace hx374_0 := ce HB.out hx374_0
     replace hx374_1 := ce HB.out hx374_1
     replace p374 := eq_true p374
     replace q374 := eq_true q374
     refine start_ (n := 15) (S := fun w' => w'.cell? ⟨gb366, 0, none⟩ = some (.slice (some ad367) l0_0.length c0_0) ∧ w'.cell? ⟨gb366, 1, none⟩ = some (.slice (some ad373) l0_1.length c0_1) ∧ w'.cell? (ad373.add ((t369).toNat * 5)) = some (.string ((rd_T125 l0_1 t369).f0)) ∧ w'.cell? ⟨(ad373.add ((t369).toNat * 5)).block, (ad373.add ((t369).toNat * 5)).off + 1, none⟩ = some (.slice (some ad374) ((rd_T125 l0_1 t369).f1).length c373_1) ∧ w'.cell? ⟨(ad373.add ((t369).toNat * 5)).block, (ad373.add ((t369).toNat * 5)).off + 2, none⟩ = some (.int .i64 ((rd_T125 l0_1 t369).f2)) ∧ w'.cell? ⟨(ad373.add ((t369).toNat * 5)).block, (ad373.add ((t369).toNat * 5)).off + 3, none⟩ = some (.int .i64 ((rd_T125 l0_1 t369).f3)) ∧ w'.cell? ⟨(ad373.add ((t369).toNat * 5)).block, (ad373.add ((t369).toNat * 5)).off + 4, none⟩ = some (.int .i64 ((rd_T125 l0_1 t369).f4)) ∧ w'.cell? (ad374.add ((x38_2).toNat * 2)) = some (.string ((rd_T147 ((rd_T125 l0_1 t369).f1) x38_2).f0)) ∧ w'.cell? ⟨(ad374.add ((x38_2).toNat * 2)).block, (ad374.add ((x38_2).toNat * 2)).off + 1, none⟩ = some (.int .i64 ((rd_T147 ((rd_T125 l0_1 t369).f1) x38_2).f1))) (ds := []) #[O, O, O, O, O, O, O, O, O, O, O, O, O, O, O] (by kernel_rfl) rfl rfl ⟨(blk_cell BK366.out 0).trans rfl, (blk_cell BK366.out 1).trans rfl, (ce HB.out hw373_0 :), (ce HB.out hw373_1 :), (ce HB.out hw373_2 :), (ce HB.out hw373_3 :), (ce HB.out hw373_4 :), (ce HB.out hw374_0 :), (ce HB.out hw374_1 :)⟩ (fun hHeld => ?_); refine with_tabW impl_callRight.tab8 impl_callRight.bits8 (fun HT_ HW_ => ?_)
     generalize wr.drew = w31 at BK366 BK368 HB HR373_1 hx373_0 hx373_1 hx373_2 hx373_3 hx373_4 hx374_0 hx374_1 hHeld ⊢
     refine pure_ (i := 1) (N := some 44) (v := ?_) (a' := ?_) #[O, I, O, O, O, O, O, O, O, O, O, O, O, O, O] rfl rfl (any_of HT_.out (by kernel_rfl)) (fun _ _ _ h => h) (Or.inl ⟨by rfl, ?_⟩) ?_ ?_
     rotate_left; · intro w'; go_simp; with_reducible rfl
     rotate_left; · simp only [pk, i64_w, i32_w]; rfl
     refine pure_ (i := 2) (N := some 45) (v := ?_) (a' := ?_) #[O, I, I, O, O, O, O, O, O, O, O, O, O, O, O] rfl rfl (any_of HT_.out (by kernel_rfl)) (fun _ _ _ h => h) (Or.inl ⟨by rfl, ?_⟩) ?_ ?_
     rotate_left; · intro w'; go_simp; with_reducible rfl
     rotate_left; · simp only [pk, i64_w, i32_w]; rfl
     refine pure_ (i := 4) (N := some 47) (v := ?_) (a' := ?_) #[O, I, I, O, I, O, O, O, O, O, O, O, O, O, O] rfl rfl (any_of HT_.out (by kernel_rfl)) (fun _ _ _ h => h) (Or.inl ⟨by rfl, ?_⟩) ?_ ?_
     rotate_left; · intro w'; go_simp; with_reducible rfl
     rotate_left; · simp only [pk, i64_w, i32_w]; rfl
     refine pure_ (i := 6) (N := some 49) (v := ?_) (a' := ?_) #[O, I, I, O, I, O, I, O, O, O, O, O, O, O, O] rfl rfl (any_of HT_.out (by kernel_rfl)) (fun _ _ _ h => h) (Or.inl ⟨by rfl, ?_⟩) ?_ ?_
     rotate_left; · intro w'; go_simp; with_reducible rfl
     rotate_left; · simp only [pk, i64_w, i32_w]; rfl
     refine pure_ (i := 10) (N := some 53) (v := ?_) (a' := ?_) #[O, I, I, O, I, O, I, O, O, O, I, O, O, O, O] rfl rfl (any_of HT_.out (by kernel_rfl)) (fun _ _ _ h => h) (Or.inl ⟨by rfl, ?_⟩) ?_ ?_
     rotate_left; · intro w'; go_simp; with_reducible rfl
     rotate_left; · simp only [pk, i64_w, i32_w]; rfl
     refine take_ (i := 0) (N := some 43) (v := ?_) (a' := ?_) #[I, I, I, O, I, O, I, O, O, O, I, O, O, O, O] rfl rfl (take_ofW HT_.out HW_.out (by kernel_rfl)) (fun _ _ _ h => h) (Or.inl ⟨by rfl, ?_⟩) hHeld ?_ ?_
     rotate_left; · rintro w' ⟨s0, s1, s2, s3, s4, s5, s6, s7, s8⟩; go_simp; with_reducible rfl
     rotate_left; · simp only [pk, i64_w, i32_w]; rfl
     refine take_ (i := 5) (N := some 48) (v := ?_) (a' := ?_) #[I, I, I, O, I, I, I, O, O, O, I, O, O, O, O] rfl rfl (take_ofW HT_.out HW_.out (by kernel_rfl)) (fun _ _ _ h => h) (Or.inl ⟨by rfl, ?_⟩) hHeld ?_ ?_
     rotate_left; · rintro w' ⟨s0, s1, s2, s3, s4, s5, s6, s7, s8⟩; go_simp; with_reducible rfl
     rotate_left; · simp only [pk, i64_w, i32_w]; rfl
     refine pure_ (i := 7) (N := some 50) (v := ?_) (a' := ?_) #[I, I, I, O, I, I, I, I, O, O, I, O, O, O, O] rfl rfl (any_of HT_.out (by kernel_rfl)) (fun _ _ _ h => h) (Or.inl ⟨by rfl, ?_⟩) ?_ ?_
     rotate_left; · intro w'; go_simp; with_reducible rfl
     rotate_left; · simp only [pk, i64_w, i32_w]; rfl
     refine pure_ (i := 8) (N := some 51) (v := ?_) (a' := ?_) #[I, I, I, O, I, I, I, I, I, O, I, O, O, O, O] rfl rfl (any_of HT_.out (by kernel_rfl)) (fun _ _ _ h => h) (Or.inl ⟨by rfl, ?_⟩) ?_ ?_
     rotate_left; · intro w'; go_simp; with_reducible rfl
     rotate_left; · simp only [pk, i64_w, i32_w]; rfl
     refine take_ (i := 9) (N := some 52) (v := ?_) (a' := ?_) #[I, I, I, O, I, I, I, I, I, I, I, O, O, O, O] rfl rfl (take_ofW HT_.out HW_.out (by kernel_rfl)) (fun _ _ _ h => h) (Or.inl ⟨by rfl, ?_⟩) hHeld ?_ ?_
     rotate_left; · rintro w' ⟨s0, s1, s2, s3, s4, s5, s6, s7, s8⟩; go_simp; with_reducible rfl
     rotate_left; · simp only [pk, i64_w, i32_w]; rfl
     refine pure_ (i := 11) (N := some 54) (v := ?_) (a' := ?_) #[I, I, I, O, I, I, I, I, I, I, I, I, O, O, O] rfl rfl (any_of HT_.out (by kernel_rfl)) (fun _ _ _ h => h) (Or.inl ⟨by rfl, ?_⟩) ?_ ?_
     rotate_left; · intro w'; go_simp; with_reducible rfl
     rotate_left; · simp only [pk, i64_w, i32_w]; rfl
     refine pure_ (i := 12) (N := some 55) (v := ?_) (a' := ?_) #[I, I, I, O, I, I, I, I, I, I, I, I, I, O, O] rfl rfl (any_of HT_.out (by kernel_rfl)) (fun _ _ _ h => h) (Or.inl ⟨by rfl, ?_⟩) ?_ ?_
     rotate_left; · intro w'; go_simp; with_reducible rfl
     rotate_left; · simp only [pk, i64_w, i32_w]; rfl
     refine take_ (i := 13) (N := some 56) (v := ?_) (a' := ?_) #[I, I, I, O, I, I, I, I, I, I, I, I, I, I, O] rfl rfl (take_ofW HT_.out HW_.out (by kernel_rfl)) (fun _ _ _ h => h) (Or.inl ⟨by rfl, ?_⟩) hHeld ?_ ?_
     rotate_left; · rintro w' ⟨s0, s1, s2, s3, s4, s5, s6, s7, s8⟩; go_simp; with_reducible rfl
     rotate_left; · simp only [pk, i64_w, i32_w]; rfl
     refine one_ (i := 3) (N := some 46) #[I, I, I, I, I, I, I, I, I, I, I, I, I, I, O] rfl rfl (one_of HT_.out (by kernel_rfl)) (by decide) (fun K hK => ?_)
     refine goes_ Tryd.func76 (by kernel_rfl) rfl #[.agg #[.slice (some ad367) l0_0.length c0_0, .slice (some ad373) l0_1.length c0_1], .slice A1 l1.length c1, .int .i64 (rd ((rd_T88 l0_0 a2).f3) x38_2)] (by rfl) rfl rfl (by (try simp only [lm]); first | done | rfl | (simp only [List.length_drop, List.length_take]; rfl)) ?_
     with_reducible refine (ih_impl_typeOf k2 (by have := HJ6.out; have := HK2.out; omega) _ _ l0_0 _ _ l0_1 _ _ l1 (rd ((rd_T88 l0_0 a2).f3) x38_2) t372 _ ?side1 ?side2 ?side3 ?side4 ?side5 ?side6 A26.out).mono ?_
     (case side1 => exact Kd.C_below HR0_0.out (be w))
     (case side2 => exact HC0_0.out)
     (case side3 => exact Kd.C_below HR0_1.out (be w))
     (case side4 => exact HC0_1.out)
     (case side5 => exact Kd.C_below HR1.out (be w))
     (case side6 => exact HC1.out)
     rintro e w32 ⟨rfl, hb⟩
     refine ⟨_, rfl, ?_⟩
     replace BK366 := As.mk (blk_below (bx BK366.out) hb)
     replace BK368 := As.mk (blk_below (bx BK368.out) hb)
     replace HB := As.mk (below_step (be w) hb)
     (try clear hb)
     (try clear hb2)
     (try clear hk)
     (try clear hi)
     refine hK.out _ _ ⟨(blk_cell BK366.out 0).trans rfl, (blk_cell BK366.out 1).trans rfl, (ce HB.out hw373_0 :), (ce HB.out hw373_1 :), (ce HB.out hw373_2 :), (ce HB.out hw373_3 :), (ce HB.out hw373_4 :), (ce HB.out hw374_0 :), (ce HB.out hw374_1 :)⟩ (fun hHeld => ?_)
     clear hK K
     refine norm_ (a' := ?_) ?_ ?_
     rotate_left
     ·
      show Act.put _ (some 46) _ = _
      simp only [pk, i64_w, i32_w]
      rfl
     refine pure_ (i := 14) (N := some 57) (v := ?_) (a' := ?_) #[I, I, I, I, I, I, I, I, I, I, I, I, I, I, I] rfl rfl (any_of HT_.out (by kernel_rfl)) (fun _ _ _ h => h) (Or.inl ⟨by rfl, ?_⟩) ?_ ?_
     rotate_left; · intro w'; go_simp; with_reducible rfl
     rotate_left; · simp only [pk, i64_w, i32_w]; rfl
     refine done_ (done_of HT_.out (by kernel_rfl)) ?_
     try go_wp2
     go_roundg k2
     case measure => have := HJ6.out; have := HK2.out; omega
     case rel => exact ⟨(wrap64 (x38_2 + 1)), (by first | rfl | (simp; done) | (simp [*]; done)), H', ⟨by have := HJ6.out; have := HK2.out; omega⟩, ⟨bx BK366.out⟩, ⟨bx BK368.out⟩, ⟨be w⟩⟩
def impl_typeOf.T22 : Bool × List (List Nat × List Nat) := (true, [([], []), ([], []), ([], []), ([2], [2]), ([3], [3]), ([4], [4]), ([0, 1, 5], [0, 1, 5]), ([6], [6])])
def impl_typeOf.B22 : List Nat := [0, 0, 0, 4, 12, 28, 63, 127]
theorem impl_typeOf.tab22 : rtab .any (opsOf Tryd.f76 22) = impl_typeOf.T22 := by kernel_rfl
theorem impl_typeOf.bits22 : waitsOk impl_typeOf.T22.2 impl_typeOf.B22 = true := by kernel_rfl
def impl_typeOf.T27 : Bool × List (List Nat × List Nat) := (true, [([], []), ([], []), ([], []), ([2], [2]), ([3], [3]), ([4], [4]), ([0, 1, 5], [0, 1, 5]), ([6], [6]), ([7, 6], [7]), ([8], [8]), ([8], [8]), ([8], [8]), ([11, 8], [8, 11]), ([12, 8], [8, 12]), ([13, 8], [8, 13]), ([9, 10, 14, 8, 8], [8, 9, 10, 14]), ([15, 8], [8, 15]), ([8, 16], [8, 16])])
def impl_typeOf.B27 : List Nat := [0, 0, 0, 4, 12, 28, 63, 127, 255, 511, 511, 511, 2559, 6655, 14847, 32767, 65535, 131071]
theorem impl_typeOf.tab27 : rtab .any (opsOf Tryd.f76 27) = impl_typeOf.T27 := by kernel_rfl
theorem impl_typeOf.bits27 : waitsOk impl_typeOf.T27.2 impl_typeOf.B27 = true := by kernel_rfl
def impl_typeOf.T31 : Bool × List (List Nat × List Nat) := (true, [([], []), ([0], [0]), ([], []), ([], []), ([3], [3]), ([2, 4], [2, 4]), ([1, 5], [1, 5]), ([6], [6]), ([7], [7]), ([8, 5, 0, 1, 2, 3, 4, 5, 6, 7, 8], [8])])
def impl_typeOf.B31 : List Nat := [0, 1, 0, 0, 8, 28, 63, 127, 255, 511]
theorem impl_typeOf.tab31 : rtab .any (opsOf Tryd.f76 31) = impl_typeOf.T31 := by kernel_rfl
theorem impl_typeOf.bits31 : waitsOk impl_typeOf.T31.2 impl_typeOf.B31 = true := by kernel_rfl
set_option maxHeartbeats 8000000 in
set_option maxRecDepth 100000 in
theorem impl_typeOf.callsO (k : Nat) (ih_impl_callRight : ∀ m_, m_ < k → impl_callRight.C m_) (ih : ∀ m_, m_ < k → impl_typeOf.C m_) : impl_typeOf.C k := by
 intro A0_0 c0_0 l0_0 A0_1 c0_1 l0_1 A1 c1 l1 a2 r w hr0_0 hc0_0 hr0_1 hc0_1 hr1 hc1 h
 cases k with
 | zero => exact absurd h (by simp [impl_typeOf.f])
 | succ k =>
 simp only [impl_typeOf.f] at h
 have hu43 := Tryd.underlying43
 have hu88 := Tryd.underlying88
 have HR0_0 := As.mk hr0_0
 have HC0_0 := As.mk hc0_0
 clear hr0_0 hc0_0
 have HR0_1 := As.mk hr0_1
 have HC0_1 := As.mk hc0_1
 clear hr0_1 hc0_1
 have HR1 := As.mk hr1
 have HC1 := As.mk hc1
 clear hr1 hc1
 have HB := As.mk (Below.refl w.heap.size w)
 have H : (if 0 ≤ a2 then (if a2 < (l0_0.length : Int) then ((impl_varType.f k l1 ((rd_T88 l0_0 a2).f2)).bind fun t378 => (if ((rd_T88 l0_0 a2).f0) = 1 then (impl_typeOf.j0 k l1 a2 t378 ((rd_T88 l0_0 a2).f0) (((rd_T88 l0_0 a2).f0) == 1) l0_0 l0_1 ((rd_T88 l0_0 a2).f0) ((rd_T88 l0_0 a2).f1) ((rd_T88 l0_0 a2).f2) ((rd_T88 l0_0 a2).f3)) else (impl_typeOf.j0 k l1 a2 t378 ((rd_T88 l0_0 a2).f0) (((rd_T88 l0_0 a2).f0) == 7) l0_0 l0_1 ((rd_T88 l0_0 a2).f0) ((rd_T88 l0_0 a2).f1) ((rd_T88 l0_0 a2).f2) ((rd_T88 l0_0 a2).f3)))) else (none)) else (none)) = some r := h
 clear h
 by_cases c4 : 0 ≤ a2
 rotate_left; · rw [if_neg c4] at H; exact absurd H (by simp)

 rw [if_pos c4] at H
 have c4b0 : decide (0 ≤ a2) = true := decide_eq_true c4
 clear c4
 by_cases c5 : a2 < (l0_0.length : Int)
 rotate_left; · rw [if_neg c5] at H; exact absurd H (by simp)
 rw [if_pos c5] at H
 have c5b0 : decide (a2 < (l0_0.length : Int)) = true := decide_eq_true c5
 clear c5
 obtain ⟨t378, A60, H⟩ := Option.bind_eq_some_iff.mp H
 try dsimp only at H
 have A6 := As.mk A60
 clear A60
 have HC7 := As.mk H
 clear H
 go_enter Tryd.func76, Tryd.ntmps76
 go_upto_if 20 with (first | ((with_reducible refine gate_dst (N := 3) rfl ?_); refine box_event ?hg (N := 3) ?hd (cs := #[.slice A0_0 l0_0.length c0_0, .slice A0_1 l0_1.length c0_1]) (t := 43) ?hr ?_; (case hd => rfl); (case hg => rfl); (case hr => first | (go_simp; done) | (go_simp; rfl)); intro gb375 hg w8 hbox hb; have BK375 := As.mk (hbox); have GW375 := As.mk (gs w hg); have GE375 := As.mk (gs w hg); replace HB := As.mk (below_step (be w) hb); clear hb hbox hg; obtain ⟨hcz9_0, hcz9_1, hfz9_0, hfz9_1⟩ := cl2 BK375.out; have p376 : 0 ≤ (a2 : Int) := od; have q376 : a2 < (l0_0.length : Int) := od; obtain ⟨ad376, A376_3, c376_3, e376, hx376_0, hx376_1, hx376_2, hx376_3, hl376_3, hi376_3⟩ := at_T88 HR0_0.out a2 p376 q376; cases e376; replace hx376_0 := ce HB.out hx376_0; replace hx376_1 := ce HB.out hx376_1; replace hx376_2 := ce HB.out hx376_2; replace hx376_3 := ce HB.out hx376_3; have HR376_3 := As.mk hi376_3; have HC376_3 := As.mk hl376_3; clear hi376_3 hl376_3; replace p376 := eq_true p376; replace q376 := eq_true q376) | ((with_reducible refine gate_dst (N := 7) rfl ?_); refine box_event ?hg (N := 7) ?hd (cs := #[.int .i64 0, .int .i64 0, .string (⟨#[]⟩ : ByteArray), .slice none 0 0]) (t := 88) ?hr ?_; (case hd => rfl); (case hg => rfl); (case hr => first | (go_simp; done) | (go_simp; rfl)); intro gb377 hg w10 hbox hb; have BK377 := As.mk (hbox); have GW377 := As.mk (gs w hg); have GE377 := As.mk (gs w hg); replace HB := As.mk (below_step (be w) hb); have NB375_377 := As.mk (nl hg (bx BK375.out)); have NB377_375 := As.mk (ng hg (bx BK375.out)); replace BK375 := As.mk (blk_below (bx BK375.out) hb); clear hb hbox hg; have hnb11 := NB377_375.out; have hnc11 := NB375_377.out; obtain ⟨hcz12_0, hcz12_1, hcz12_2, hcz12_3, hfz12_0, hfz12_1, hfz12_2, hfz12_3⟩ := cl4 BK377.out) | ((with_reducible refine gate_callee (f := 101) rfl ?_); refine goesL_ (some 17) rfl rfl Tryd.func101 (by kernel_rfl) rfl #[.slice A1 l1.length c1, .string ((rd_T88 l0_0 a2).f2)] rfl (by (try simp only [lm]); first | done | rfl | (simp only [List.length_drop, List.length_take]; rfl)) ?_; (with_reducible refine (impl_varType.calls k _ _ l1 ((rd_T88 l0_0 a2).f2) t378 _ ?side1 ?side2 A6.out).mono ?_); (case side1 => exact Kd.C_below HR1.out (be w)); (case side2 => exact HC1.out); rintro e w13 ⟨rfl, hb⟩; refine ⟨_, rfl, ?_⟩; replace BK375 := As.mk (blk_below (g := gb375) (o := .cells #[.slice (some ad376) l0_0.length c0_0, .slice A0_1 l0_1.length c0_1] 43 (0, 0)) (by refine pl ?_; refine blk_far ?_ NB375_377.out _; refine pl ?_; refine blk_far ?_ NB375_377.out _; refine pl ?_; refine blk_far ?_ NB375_377.out _; refine pl ?_; refine blk_far ?_ NB375_377.out _; exact bx BK375.out) hb); replace BK377 := As.mk (blk_below (g := gb377) (o := .cells #[.int .i64 ((rd_T88 l0_0 a2).f0), .int .i64 ((rd_T88 l0_0 a2).f1), .string ((rd_T88 l0_0 a2).f2), .slice A376_3 ((rd_T88 l0_0 a2).f3).length c376_3] 88 (0, 0)) (by refine pl ?_; refine blk_put (cs := #[.int .i64 ((rd_T88 l0_0 a2).f0), .int .i64 ((rd_T88 l0_0 a2).f1), .string ((rd_T88 l0_0 a2).f2), .slice none 0 0]) ?_ 3 _ rfl; refine pl ?_; refine blk_put (cs := #[.int .i64 ((rd_T88 l0_0 a2).f0), .int .i64 ((rd_T88 l0_0 a2).f1), .string (⟨#[]⟩ : ByteArray), .slice none 0 0]) ?_ 2 _ rfl; refine pl ?_; refine blk_put (cs := #[.int .i64 ((rd_T88 l0_0 a2).f0), .int .i64 0, .string (⟨#[]⟩ : ByteArray), .slice none 0 0]) ?_ 1 _ rfl; refine pl ?_; refine blk_put (cs := #[.int .i64 0, .int .i64 0, .string (⟨#[]⟩ : ByteArray), .slice none 0 0]) ?_ 0 _ rfl; exact bx BK377.out) hb); replace HB := As.mk (below_step (be w) hb); (try clear hb); (try clear hb2); (try clear hk); (try clear hi); obtain ⟨hcz14_0, hcz14_1, hcz14_2, hcz14_3, hfz14_0, hfz14_1, hfz14_2, hfz14_3⟩ := cl4 BK377.out))
 (try simp only [pk])
 go_cut [20] (fun v20 wc => ∃ (kq : Nat) (x20_6 : Bool), v20 = .bool x20_6 ∧ As (impl_typeOf.j0 kq l1 a2 t378 ((rd_T88 l0_0 a2).f0) x20_6 l0_0 l0_1 ((rd_T88 l0_0 a2).f0) ((rd_T88 l0_0 a2).f1) ((rd_T88 l0_0 a2).f2) ((rd_T88 l0_0 a2).f3) = some r) ∧ As (kq ≤ k) ∧ As (wc.heap[gb375]? = some (.cells #[(.slice (some ad376) l0_0.length c0_0), (.slice A0_1 l0_1.length c0_1)] 43 (0, 0))) ∧ As (wc.heap[gb377]? = some (.cells #[.int .i64 ((rd_T88 l0_0 a2).f0), .int .i64 ((rd_T88 l0_0 a2).f1), .string ((rd_T88 l0_0 a2).f2), (.slice A376_3 ((rd_T88 l0_0 a2).f3).length c376_3)] 88 (0, 0))) ∧ As (Below w.heap.size w wc))
 case first =>
  have H := HC7.out
  clear HC7
  by_cases c15 : ((rd_T88 l0_0 a2).f0) = 1
  rotate_left
  ·
   rw [if_neg c15] at H
   have c15b0 : (((rd_T88 l0_0 a2).f0) == 1) = false := beq_eq_false_iff_ne.mpr c15
   have c15b1 : (((rd_T88 l0_0 a2).f0) != 1) = true := bne_iff_ne.mpr c15
   (first | rw [c15b0] | (simp only [i64_w, i32_w]; rw [c15b0]) | skip)
   have H' := As.mk H
   clear H
   go_wp2
   go_meet
   case rel => exact ⟨_, ((((rd_T88 l0_0 a2).f0) == 7)), (by first | rfl | (simp; done) | (simp [*]; done)), H', ⟨by first | omega | exact Nat.le_refl _⟩, ⟨bx BK375.out⟩, ⟨bx BK377.out⟩, ⟨be w⟩⟩
  rw [if_pos c15] at H
  have c15b0 : (((rd_T88 l0_0 a2).f0) == 1) = true := beq_iff_eq.mpr c15
  have c15b1 : (((rd_T88 l0_0 a2).f0) != 1) = false := bne_eq_false_iff_eq.mpr c15
  clear c15
  (first | rw [c15b0] | (simp only [i64_w, i32_w]; rw [c15b0]) | skip)
  have H' := As.mk H
  clear H
  go_wp2
  go_meet
  case rel => exact ⟨_, ((((rd_T88 l0_0 a2).f0) == 1)), (by first | rfl | (simp; done) | (simp [*]; done)), H', ⟨by first | omega | exact Nat.le_refl _⟩, ⟨bx BK375.out⟩, ⟨bx BK377.out⟩, ⟨be w⟩⟩
 case rest =>
  clear HC7
  (try clear c1); (try clear c4); (try clear c4b0); (try clear c5); (try clear c5b0); (try clear hcz12_0); (try clear hcz12_1); (try clear hcz12_2); (try clear hcz12_3); (try clear hcz14_0); (try clear hcz14_1); (try clear hcz14_2); (try clear hcz14_3); (try clear hcz9_0); (try clear hcz9_1); (try clear hfz12_0); (try clear hfz12_1); (try clear hfz12_2); (try clear hfz12_3); (try clear hfz14_0); (try clear hfz14_1); (try clear hfz14_2); (try clear hfz14_3); (try clear hfz9_0); (try clear hfz9_1); (try clear hx376_0); (try clear hx376_1); (try clear hx376_2); (try clear hx376_3); (try clear p376); (try clear q376)
  obtain ⟨kq, x20_6, rfl, HA, HJ6, BK375, BK377, HB⟩ := hcut
  cases kq with
  | zero => exact absurd HA.out (by simp [impl_typeOf.j0])
  | succ kj6 =>
   have H := HA.out
   clear HA
   simp only [impl_typeOf.j0] at H
   by_cases c16 : x20_6 = true
   ·
    subst c16
    rw [if_pos rfl] at H
    obtain rfl := Option.some.inj H
    go_wp2
    go_ret
    exact (ew (be w))
   replace c16 := Bool.eq_false_iff.mpr c16
   subst c16
   rw [if_neg (show ¬ (false = true) by decide)] at H
   by_cases c17 : ((rd_T88 l0_0 a2).f0) = 2
   ·
    rw [if_pos c17] at H
    have c17b0 : (((rd_T88 l0_0 a2).f0) == 2) = true := beq_iff_eq.mpr c17
    have c17b1 : (((rd_T88 l0_0 a2).f0) != 2) = false := bne_eq_false_iff_eq.mpr c17
    clear c17
    obtain rfl := Option.some.inj H
    go_wp2
    go_ret
    exact (ew (be w))
   rw [if_neg c17] at H
   have c17b0 : (((rd_T88 l0_0 a2).f0) == 2) = false := beq_eq_false_iff_ne.mpr c17
   have c17b1 : (((rd_T88 l0_0 a2).f0) != 2) = true := bne_iff_ne.mpr c17
   by_cases c18 : ((rd_T88 l0_0 a2).f0) = 3
   ·
    rw [if_pos c18] at H
    have c18b0 : (((rd_T88 l0_0 a2).f0) == 3) = true := beq_iff_eq.mpr c18
    have c18b1 : (((rd_T88 l0_0 a2).f0) != 3) = false := bne_eq_false_iff_eq.mpr c18
    clear c18
    by_cases c19 : t378 = 2
    ·
     rw [if_pos c19] at H
     have c19b0 : (t378 == 2) = true := beq_iff_eq.mpr c19
     have c19b1 : (t378 != 2) = false := bne_eq_false_iff_eq.mpr c19
     clear c19
     obtain rfl := Option.some.inj H
     go_wp2
     go_ret
     exact (ew (be w))
    rw [if_neg c19] at H
    have c19b0 : (t378 == 2) = false := beq_eq_false_iff_ne.mpr c19
    have c19b1 : (t378 != 2) = true := bne_iff_ne.mpr c19
    by_cases c20 : t378 = 3
    ·
     rw [if_pos c20] at H
     have c20b0 : (t378 == 3) = true := beq_iff_eq.mpr c20
     have c20b1 : (t378 != 3) = false := bne_eq_false_iff_eq.mpr c20
     clear c20
     obtain rfl := Option.some.inj H
     go_wp2
     go_ret
     exact (ew (be w))
    rw [if_neg c20] at H
    have c20b0 : (t378 == 3) = false := beq_eq_false_iff_ne.mpr c20
    have c20b1 : (t378 != 3) = true := bne_iff_ne.mpr c20
    by_cases c21 : t378 = 4
    rotate_left
    ·
     rw [if_neg c21] at H
     have c21b0 : (t378 == 4) = false := beq_eq_false_iff_ne.mpr c21
     have c21b1 : (t378 != 4) = true := bne_iff_ne.mpr c21
     obtain rfl := Option.some.inj H
     go_wp2
     go_ret
     exact (ew (be w))
    rw [if_pos c21] at H
    have c21b0 : (t378 == 4) = true := beq_iff_eq.mpr c21
    have c21b1 : (t378 != 4) = false := bne_eq_false_iff_eq.mpr c21
    clear c21
    obtain rfl := Option.some.inj H
    go_wp2
    go_ret
    exact (ew (be w))
   rw [if_neg c18] at H
   have c18b0 : (((rd_T88 l0_0 a2).f0) == 3) = false := beq_eq_false_iff_ne.mpr c18
   have c18b1 : (((rd_T88 l0_0 a2).f0) != 3) = true := bne_iff_ne.mpr c18
   by_cases c22 : ((rd_T88 l0_0 a2).f0) = 4
   ·
    rw [if_pos c22] at H
    have c22b0 : (((rd_T88 l0_0 a2).f0) == 4) = true := beq_iff_eq.mpr c22
    have c22b1 : (((rd_T88 l0_0 a2).f0) != 4) = false := bne_eq_false_iff_eq.mpr c22
    clear c22
    by_cases c23 : t378 = 2
    ·
     rw [if_pos c23] at H
     have c23b0 : (t378 == 2) = true := beq_iff_eq.mpr c23
     have c23b1 : (t378 != 2) = false := bne_eq_false_iff_eq.mpr c23
     clear c23
     obtain rfl := Option.some.inj H
     go_wp2
     go_ret
     exact (ew (be w))
    rw [if_neg c23] at H
    have c23b0 : (t378 == 2) = false := beq_eq_false_iff_ne.mpr c23
    have c23b1 : (t378 != 2) = true := bne_iff_ne.mpr c23
    by_cases c24 : t378 = 3
    ·
     rw [if_pos c24] at H
     have c24b0 : (t378 == 3) = true := beq_iff_eq.mpr c24
     have c24b1 : (t378 != 3) = false := bne_eq_false_iff_eq.mpr c24
     clear c24
     obtain rfl := Option.some.inj H
     go_wp2
     go_ret
     exact (ew (be w))
    rw [if_neg c24] at H
    have c24b0 : (t378 == 3) = false := beq_eq_false_iff_ne.mpr c24
    have c24b1 : (t378 != 3) = true := bne_iff_ne.mpr c24
    by_cases c25 : t378 = 4
    rotate_left
    ·
     rw [if_neg c25] at H
     have c25b0 : (t378 == 4) = false := beq_eq_false_iff_ne.mpr c25
     have c25b1 : (t378 != 4) = true := bne_iff_ne.mpr c25
     obtain rfl := Option.some.inj H
     go_wp2
     go_ret
     exact (ew (be w))
    rw [if_pos c25] at H
    have c25b0 : (t378 == 4) = true := beq_iff_eq.mpr c25
    have c25b1 : (t378 != 4) = false := bne_eq_false_iff_eq.mpr c25
    clear c25
    obtain rfl := Option.some.inj H
    go_wp2
    go_ret
    exact (ew (be w))
   rw [if_neg c22] at H
   have c22b0 : (((rd_T88 l0_0 a2).f0) == 4) = false := beq_eq_false_iff_ne.mpr c22
   have c22b1 : (((rd_T88 l0_0 a2).f0) != 4) = true := bne_iff_ne.mpr c22
   by_cases c26 : ((rd_T88 l0_0 a2).f0) = 5
   ·
    rw [if_pos c26] at H
    have c26b0 : (((rd_T88 l0_0 a2).f0) == 5) = true := beq_iff_eq.mpr c26
    have c26b1 : (((rd_T88 l0_0 a2).f0) != 5) = false := bne_eq_false_iff_eq.mpr c26
    clear c26
    by_cases c27 : t378 = 2
    rotate_left
    ·
     rw [if_neg c27] at H
     have c27b0 : (t378 == 2) = false := beq_eq_false_iff_ne.mpr c27
     have c27b1 : (t378 != 2) = true := bne_iff_ne.mpr c27
     obtain rfl := Option.some.inj H
     go_wp2
     go_ret
     exact (ew (be w))
    rw [if_pos c27] at H
    have c27b0 : (t378 == 2) = true := beq_iff_eq.mpr c27
    have c27b1 : (t378 != 2) = false := bne_eq_false_iff_eq.mpr c27
    clear c27
    obtain rfl := Option.some.inj H
    go_wp2
    go_ret
    exact (ew (be w))
   rw [if_neg c26] at H
   have c26b0 : (((rd_T88 l0_0 a2).f0) == 5) = false := beq_eq_false_iff_ne.mpr c26
   have c26b1 : (((rd_T88 l0_0 a2).f0) != 5) = true := bne_iff_ne.mpr c26
   by_cases c28 : ((rd_T88 l0_0 a2).f0) = 6
   ·
    rw [if_pos c28] at H
    have c28b0 : (((rd_T88 l0_0 a2).f0) == 6) = true := beq_iff_eq.mpr c28
    have c28b1 : (((rd_T88 l0_0 a2).f0) != 6) = false := bne_eq_false_iff_eq.mpr c28
    clear c28
    by_cases c29 : t378 = 2
    rotate_left
    ·
     rw [if_neg c29] at H
     have c29b0 : (t378 == 2) = false := beq_eq_false_iff_ne.mpr c29
     have c29b1 : (t378 != 2) = true := bne_iff_ne.mpr c29
     obtain rfl := Option.some.inj H
     go_wp2
     go_ret
     exact (ew (be w))
    rw [if_pos c29] at H
    have c29b0 : (t378 == 2) = true := beq_iff_eq.mpr c29
    have c29b1 : (t378 != 2) = false := bne_eq_false_iff_eq.mpr c29
    clear c29
    obtain rfl := Option.some.inj H
    go_wp2
    go_ret
    exact (ew (be w))
   rw [if_neg c28] at H
   have c28b0 : (((rd_T88 l0_0 a2).f0) == 6) = false := beq_eq_false_iff_ne.mpr c28
   have c28b1 : (((rd_T88 l0_0 a2).f0) != 6) = true := bne_iff_ne.mpr c28
   by_cases c30 : ((rd_T88 l0_0 a2).f0) = 8
   ·
    rw [if_pos c30] at H
    have c30b0 : (((rd_T88 l0_0 a2).f0) == 8) = true := beq_iff_eq.mpr c30
    have c30b1 : (((rd_T88 l0_0 a2).f0) != 8) = false := bne_eq_false_iff_eq.mpr c30
    clear c30
    by_cases c31 : 0 < (((rd_T88 l0_0 a2).f3).length : Int)
    rotate_left; · rw [if_neg c31] at H; exact absurd H (by simp)
    rw [if_pos c31] at H
    have c31b0 : decide (0 < (((rd_T88 l0_0 a2).f3).length : Int)) = true := decide_eq_true c31
    have c31b1 : decide (0 < ((rd_T88 l0_0 a2).f3).length) = true := decide_eq_true (by omega)
    clear c31
    obtain ⟨t380, A320, H⟩ := Option.bind_eq_some_iff.mp H
    try dsimp only at H
    have A32 := As.mk A320
    clear A320
    by_cases c33 : t380 = 1
    rotate_left
    ·
     rw [if_neg c33] at H
     have c33b0 : (t380 == 1) = false := beq_eq_false_iff_ne.mpr c33
     have c33b1 : (t380 != 1) = true := bne_iff_ne.mpr c33
     obtain rfl := Option.some.inj H
     try go_wp2
     replace BK375 := As.mk (blk_drew BK375.out)
     replace BK377 := As.mk (blk_drew BK377.out)
     replace HB := As.mk (below_drew1 HB.out)
     have p379 : 0 ≤ (0 : Int) := (by omega)
     have q379 : 0 < (((rd_T88 l0_0 a2).f3).length : Int) := od
     obtain ⟨ad379, e379, hx379_0⟩ := Kd.at_int HR376_3.out 0 p379 q379
     have hw379_0 := hx379_0
     (try rw [show ((0 : Int)).toNat = 0 from rfl] at hw379_0)
     (try rw [show 0 * 1 = 0 from rfl] at hw379_0)
     (try rw [Addr.add_zero'] at hw379_0)
     cases e379
     have qi379 : (0 < ((rd_T88 l0_0 a2).f3).length) = True := eq_true (by omega)
     (try rw [show ((0 : Int)).toNat = 0 from rfl] at hx379_0)
     (try rw [Addr.add_zero'] at hx379_0)
     replace hx379_0 := ce HB.out hx379_0
     replace p379 := eq_true p379
     replace q379 := eq_true q379
     refine start_ (n := 8) (S := fun w' => w'.cell? ⟨gb375, 0, none⟩ = some (.slice (some ad376) l0_0.length c0_0) ∧ w'.cell? ⟨gb375, 1, none⟩ = some (.slice A0_1 l0_1.length c0_1) ∧ w'.cell? ⟨gb377, 0, none⟩ = some (.int .i64 ((rd_T88 l0_0 a2).f0)) ∧ w'.cell? ⟨gb377, 1, none⟩ = some (.int .i64 ((rd_T88 l0_0 a2).f1)) ∧ w'.cell? ⟨gb377, 2, none⟩ = some (.string ((rd_T88 l0_0 a2).f2)) ∧ w'.cell? ⟨gb377, 3, none⟩ = some (.slice (some ad379) ((rd_T88 l0_0 a2).f3).length c376_3) ∧ w'.cell? ad379 = some (.int .i64 (rd ((rd_T88 l0_0 a2).f3) 0))) (ds := []) #[O, O, O, O, O, O, O, O] (by kernel_rfl) rfl rfl ⟨(blk_cell BK375.out 0).trans rfl, (blk_cell BK375.out 1).trans rfl, (blk_cell BK377.out 0).trans rfl, (blk_cell BK377.out 1).trans rfl, (blk_cell BK377.out 2).trans rfl, (blk_cell BK377.out 3).trans rfl, (ce HB.out hw379_0 :)⟩ (fun hHeld => ?_); refine with_tabW impl_typeOf.tab22 impl_typeOf.bits22 (fun HT_ HW_ => ?_)
     generalize wc.drew = w36 at BK375 BK377 HB hx379_0 hHeld ⊢
     refine pure_ (i := 1) (N := some 61) (v := ?_) (a' := ?_) #[O, I, O, O, O, O, O, O] rfl rfl (any_of HT_.out (by kernel_rfl)) (fun _ _ _ h => h) (Or.inl ⟨by rfl, ?_⟩) ?_ ?_
     rotate_left; · intro w'; go_simp; with_reducible rfl
     rotate_left; · simp only [pk, i64_w, i32_w]; rfl
     refine pure_ (i := 2) (N := some 62) (v := ?_) (a' := ?_) #[O, I, I, O, O, O, O, O] rfl rfl (any_of HT_.out (by kernel_rfl)) (fun _ _ _ h => h) (Or.inl ⟨by rfl, ?_⟩) ?_ ?_
     rotate_left; · intro w'; go_simp; with_reducible rfl
     rotate_left; · simp only [pk, i64_w, i32_w]; rfl
     refine take_ (i := 0) (N := some 60) (v := ?_) (a' := ?_) #[I, I, I, O, O, O, O, O] rfl rfl (take_ofW HT_.out HW_.out (by kernel_rfl)) (fun _ _ _ h => h) (Or.inl ⟨by rfl, ?_⟩) hHeld ?_ ?_
     rotate_left; · rintro w' ⟨s0, s1, s2, s3, s4, s5, s6⟩; go_simp; with_reducible rfl
     rotate_left; · simp only [pk, i64_w, i32_w]; rfl
     refine take_ (i := 3) (N := some 63) (v := ?_) (a' := ?_) #[I, I, I, I, O, O, O, O] rfl rfl (take_ofW HT_.out HW_.out (by kernel_rfl)) (fun _ _ _ h => h) (Or.inl ⟨by rfl, ?_⟩) hHeld ?_ ?_
     rotate_left; · rintro w' ⟨s0, s1, s2, s3, s4, s5, s6⟩; go_simp; with_reducible rfl
     rotate_left; · simp only [pk, i64_w, i32_w]; rfl
     refine pure_ (i := 4) (N := some 64) (v := ?_) (a' := ?_) #[I, I, I, I, I, O, O, O] rfl rfl (any_of HT_.out (by kernel_rfl)) (fun _ _ _ h => h) (Or.inl ⟨by rfl, ?_⟩) ?_ ?_
     rotate_left; · intro w'; go_simp; with_reducible rfl
     rotate_left; · simp only [pk, i64_w, i32_w]; rfl
     refine take_ (i := 5) (N := some 65) (v := ?_) (a' := ?_) #[I, I, I, I, I, I, O, O] rfl rfl (take_ofW HT_.out HW_.out (by kernel_rfl)) (fun _ _ _ h => h) (Or.inl ⟨by rfl, ?_⟩) hHeld ?_ ?_
     rotate_left; · rintro w' ⟨s0, s1, s2, s3, s4, s5, s6⟩; go_simp; with_reducible rfl
     rotate_left; · simp only [pk, i64_w, i32_w]; rfl
     refine one_ (i := 6) (N := some 66) #[I, I, I, I, I, I, I, O] rfl rfl (one_of HT_.out (by kernel_rfl)) (by decide) (fun K hK => ?_)
     refine goes_ Tryd.func76 (by kernel_rfl) rfl #[.agg #[.slice (some ad376) l0_0.length c0_0, .slice A0_1 l0_1.length c0_1], .slice A1 l1.length c1, .int .i64 (rd ((rd_T88 l0_0 a2).f3) 0)] (by rfl) rfl rfl (by (try simp only [lm]); first | done | rfl | (simp only [List.length_drop, List.length_take]; rfl)) ?_
     with_reducible refine (ih kj6 (by have := HJ6.out; omega) _ _ l0_0 _ _ l0_1 _ _ l1 (rd ((rd_T88 l0_0 a2).f3) 0) t380 _ ?side1 ?side2 ?side3 ?side4 ?side5 ?side6 A32.out).mono ?_
     (case side1 => exact Kd.C_below HR0_0.out (be w))
     (case side2 => exact HC0_0.out)
     (case side3 => exact Kd.C_below HR0_1.out (be w))
     (case side4 => exact HC0_1.out)
     (case side5 => exact Kd.C_below HR1.out (be w))
     (case side6 => exact HC1.out)
     rintro e w37 ⟨rfl, hb⟩
     refine ⟨_, rfl, ?_⟩
     replace BK375 := As.mk (blk_below (bx BK375.out) hb)
     replace BK377 := As.mk (blk_below (bx BK377.out) hb)
     replace HB := As.mk (below_step (be w) hb)
     (try clear hb)
     (try clear hb2)
     (try clear hk)
     (try clear hi)
     refine hK.out _ _ ⟨(blk_cell BK375.out 0).trans rfl, (blk_cell BK375.out 1).trans rfl, (blk_cell BK377.out 0).trans rfl, (blk_cell BK377.out 1).trans rfl, (blk_cell BK377.out 2).trans rfl, (blk_cell BK377.out 3).trans rfl, (ce HB.out hw379_0 :)⟩ (fun hHeld => ?_)
     clear hK K
     refine norm_ (a' := ?_) ?_ ?_
     rotate_left
     ·
      show Act.put _ (some 66) _ = _
      simp only [pk, i64_w, i32_w]
      rfl
     refine pure_ (i := 7) (N := some 67) (v := ?_) (a' := ?_) #[I, I, I, I, I, I, I, I] rfl rfl (any_of HT_.out (by kernel_rfl)) (fun _ _ _ h => h) (Or.inl ⟨by rfl, ?_⟩) ?_ ?_
     rotate_left; · intro w'; go_simp; with_reducible rfl
     rotate_left; · simp only [pk, i64_w, i32_w]; rfl
     refine done_ (done_of HT_.out (by kernel_rfl)) ?_
     try go_wp2
     go_ret
     exact (ew (be w))
    rw [if_pos c33] at H
    have c33b0 : (t380 == 1) = true := beq_iff_eq.mpr c33
    have c33b1 : (t380 != 1) = false := bne_eq_false_iff_eq.mpr c33
    clear c33
    obtain rfl := Option.some.inj H
    try go_wp2
    replace BK375 := As.mk (blk_drew BK375.out)
    replace BK377 := As.mk (blk_drew BK377.out)
    replace HB := As.mk (below_drew1 HB.out)
    have p379 : 0 ≤ (0 : Int) := (by omega)
    have q379 : 0 < (((rd_T88 l0_0 a2).f3).length : Int) := od
    obtain ⟨ad379, e379, hx379_0⟩ := Kd.at_int HR376_3.out 0 p379 q379
    have hw379_0 := hx379_0
    (try rw [show ((0 : Int)).toNat = 0 from rfl] at hw379_0)
    (try rw [show 0 * 1 = 0 from rfl] at hw379_0)
    (try rw [Addr.add_zero'] at hw379_0)
    cases e379
    have qi379 : (0 < ((rd_T88 l0_0 a2).f3).length) = True := eq_true (by omega)
    (try rw [show ((0 : Int)).toNat = 0 from rfl] at hx379_0)
    (try rw [Addr.add_zero'] at hx379_0)
    replace hx379_0 := ce HB.out hx379_0
    replace p379 := eq_true p379
    replace q379 := eq_true q379
    refine start_ (n := 8) (S := fun w' => w'.cell? ⟨gb375, 0, none⟩ = some (.slice (some ad376) l0_0.length c0_0) ∧ w'.cell? ⟨gb375, 1, none⟩ = some (.slice A0_1 l0_1.length c0_1) ∧ w'.cell? ⟨gb377, 0, none⟩ = some (.int .i64 ((rd_T88 l0_0 a2).f0)) ∧ w'.cell? ⟨gb377, 1, none⟩ = some (.int .i64 ((rd_T88 l0_0 a2).f1)) ∧ w'.cell? ⟨gb377, 2, none⟩ = some (.string ((rd_T88 l0_0 a2).f2)) ∧ w'.cell? ⟨gb377, 3, none⟩ = some (.slice (some ad379) ((rd_T88 l0_0 a2).f3).length c376_3) ∧ w'.cell? ad379 = some (.int .i64 (rd ((rd_T88 l0_0 a2).f3) 0))) (ds := []) #[O, O, O, O, O, O, O, O] (by kernel_rfl) rfl rfl ⟨(blk_cell BK375.out 0).trans rfl, (blk_cell BK375.out 1).trans rfl, (blk_cell BK377.out 0).trans rfl, (blk_cell BK377.out 1).trans rfl, (blk_cell BK377.out 2).trans rfl, (blk_cell BK377.out 3).trans rfl, (ce HB.out hw379_0 :)⟩ (fun hHeld => ?_); refine with_tabW impl_typeOf.tab22 impl_typeOf.bits22 (fun HT_ HW_ => ?_)
    generalize wc.drew = w34 at BK375 BK377 HB hx379_0 hHeld ⊢
    refine pure_ (i := 1) (N := some 61) (v := ?_) (a' := ?_) #[O, I, O, O, O, O, O, O] rfl rfl (any_of HT_.out (by kernel_rfl)) (fun _ _ _ h => h) (Or.inl ⟨by rfl, ?_⟩) ?_ ?_
    rotate_left; · intro w'; go_simp; with_reducible rfl
    rotate_left; · simp only [pk, i64_w, i32_w]; rfl
    refine pure_ (i := 2) (N := some 62) (v := ?_) (a' := ?_) #[O, I, I, O, O, O, O, O] rfl rfl (any_of HT_.out (by kernel_rfl)) (fun _ _ _ h => h) (Or.inl ⟨by rfl, ?_⟩) ?_ ?_
    rotate_left; · intro w'; go_simp; with_reducible rfl
    rotate_left; · simp only [pk, i64_w, i32_w]; rfl
    refine take_ (i := 0) (N := some 60) (v := ?_) (a' := ?_) #[I, I, I, O, O, O, O, O] rfl rfl (take_ofW HT_.out HW_.out (by kernel_rfl)) (fun _ _ _ h => h) (Or.inl ⟨by rfl, ?_⟩) hHeld ?_ ?_
    rotate_left; · rintro w' ⟨s0, s1, s2, s3, s4, s5, s6⟩; go_simp; with_reducible rfl
    rotate_left; · simp only [pk, i64_w, i32_w]; rfl
    refine take_ (i := 3) (N := some 63) (v := ?_) (a' := ?_) #[I, I, I, I, O, O, O, O] rfl rfl (take_ofW HT_.out HW_.out (by kernel_rfl)) (fun _ _ _ h => h) (Or.inl ⟨by rfl, ?_⟩) hHeld ?_ ?_
    rotate_left; · rintro w' ⟨s0, s1, s2, s3, s4, s5, s6⟩; go_simp; with_reducible rfl
    rotate_left; · simp only [pk, i64_w, i32_w]; rfl
    refine pure_ (i := 4) (N := some 64) (v := ?_) (a' := ?_) #[I, I, I, I, I, O, O, O] rfl rfl (any_of HT_.out (by kernel_rfl)) (fun _ _ _ h => h) (Or.inl ⟨by rfl, ?_⟩) ?_ ?_
    rotate_left; · intro w'; go_simp; with_reducible rfl
    rotate_left; · simp only [pk, i64_w, i32_w]; rfl
    refine take_ (i := 5) (N := some 65) (v := ?_) (a' := ?_) #[I, I, I, I, I, I, O, O] rfl rfl (take_ofW HT_.out HW_.out (by kernel_rfl)) (fun _ _ _ h => h) (Or.inl ⟨by rfl, ?_⟩) hHeld ?_ ?_
    rotate_left; · rintro w' ⟨s0, s1, s2, s3, s4, s5, s6⟩; go_simp; with_reducible rfl
    rotate_left; · simp only [pk, i64_w, i32_w]; rfl
    refine one_ (i := 6) (N := some 66) #[I, I, I, I, I, I, I, O] rfl rfl (one_of HT_.out (by kernel_rfl)) (by decide) (fun K hK => ?_)
    refine goes_ Tryd.func76 (by kernel_rfl) rfl #[.agg #[.slice (some ad376) l0_0.length c0_0, .slice A0_1 l0_1.length c0_1], .slice A1 l1.length c1, .int .i64 (rd ((rd_T88 l0_0 a2).f3) 0)] (by rfl) rfl rfl (by (try simp only [lm]); first | done | rfl | (simp only [List.length_drop, List.length_take]; rfl)) ?_
    with_reducible refine (ih kj6 (by have := HJ6.out; omega) _ _ l0_0 _ _ l0_1 _ _ l1 (rd ((rd_T88 l0_0 a2).f3) 0) t380 _ ?side1 ?side2 ?side3 ?side4 ?side5 ?side6 A32.out).mono ?_
    (case side1 => exact Kd.C_below HR0_0.out (be w))
    (case side2 => exact HC0_0.out)
    (case side3 => exact Kd.C_below HR0_1.out (be w))
    (case side4 => exact HC0_1.out)
    (case side5 => exact Kd.C_below HR1.out (be w))
    (case side6 => exact HC1.out)
    rintro e w35 ⟨rfl, hb⟩
    refine ⟨_, rfl, ?_⟩
    replace BK375 := As.mk (blk_below (bx BK375.out) hb)
    replace BK377 := As.mk (blk_below (bx BK377.out) hb)
    replace HB := As.mk (below_step (be w) hb)
    (try clear hb)
    (try clear hb2)
    (try clear hk)
    (try clear hi)
    refine hK.out _ _ ⟨(blk_cell BK375.out 0).trans rfl, (blk_cell BK375.out 1).trans rfl, (blk_cell BK377.out 0).trans rfl, (blk_cell BK377.out 1).trans rfl, (blk_cell BK377.out 2).trans rfl, (blk_cell BK377.out 3).trans rfl, (ce HB.out hw379_0 :)⟩ (fun hHeld => ?_)
    clear hK K
    refine norm_ (a' := ?_) ?_ ?_
    rotate_left
    ·
     show Act.put _ (some 66) _ = _
     simp only [pk, i64_w, i32_w]
     rfl
    refine pure_ (i := 7) (N := some 67) (v := ?_) (a' := ?_) #[I, I, I, I, I, I, I, I] rfl rfl (any_of HT_.out (by kernel_rfl)) (fun _ _ _ h => h) (Or.inl ⟨by rfl, ?_⟩) ?_ ?_
    rotate_left; · intro w'; go_simp; with_reducible rfl
    rotate_left; · simp only [pk, i64_w, i32_w]; rfl
    refine done_ (done_of HT_.out (by kernel_rfl)) ?_
    try go_wp2
    go_ret
    exact (ew (be w))
   rw [if_neg c30] at H
   have c30b0 : (((rd_T88 l0_0 a2).f0) == 8) = false := beq_eq_false_iff_ne.mpr c30
   have c30b1 : (((rd_T88 l0_0 a2).f0) != 8) = true := bne_iff_ne.mpr c30
   have HC38 := As.mk H
   clear H
   go_upto_if 68 with (fail)
   go_cut [68] (fun v68 wc => ∃ (kq : Nat) (x68_37 : Bool), v68 = .bool x68_37 ∧ As (impl_typeOf.j1 kq l1 a2 ((rd_T88 l0_0 a2).f0) x68_37 l0_0 l0_1 ((rd_T88 l0_0 a2).f0) ((rd_T88 l0_0 a2).f1) ((rd_T88 l0_0 a2).f2) ((rd_T88 l0_0 a2).f3) = some r) ∧ As (kq ≤ kj6) ∧ As (wc.heap[gb375]? = some (.cells #[(.slice (some ad376) l0_0.length c0_0), (.slice A0_1 l0_1.length c0_1)] 43 (0, 0))) ∧ As (wc.heap[gb377]? = some (.cells #[.int .i64 ((rd_T88 l0_0 a2).f0), .int .i64 ((rd_T88 l0_0 a2).f1), .string ((rd_T88 l0_0 a2).f2), (.slice A376_3 ((rd_T88 l0_0 a2).f3).length c376_3)] 88 (0, 0))) ∧ As (Below w.heap.size w wc))
   case first =>
    have H := HC38.out
    clear HC38
    by_cases c39 : ((rd_T88 l0_0 a2).f0) = 9
    ·
     rw [if_pos c39] at H
     have c39b0 : (((rd_T88 l0_0 a2).f0) == 9) = true := beq_iff_eq.mpr c39
     have c39b1 : (((rd_T88 l0_0 a2).f0) != 9) = false := bne_eq_false_iff_eq.mpr c39
     clear c39
     (first | rw [c39b0] | (simp only [i64_w, i32_w]; rw [c39b0]) | skip)
     have H' := As.mk H
     clear H
     go_wp2
     go_meet
     case rel => exact ⟨_, ((((rd_T88 l0_0 a2).f0) == 9)), (by first | rfl | (simp; done) | (simp [*]; done)), H', ⟨by have := HJ6.out; first | omega | exact Nat.le_refl _⟩, ⟨bx BK375.out⟩, ⟨bx BK377.out⟩, ⟨be w⟩⟩
    rw [if_neg c39] at H
    have c39b0 : (((rd_T88 l0_0 a2).f0) == 9) = false := beq_eq_false_iff_ne.mpr c39
    have c39b1 : (((rd_T88 l0_0 a2).f0) != 9) = true := bne_iff_ne.mpr c39
    (first | rw [c39b0] | (simp only [i64_w, i32_w]; rw [c39b0]) | skip)
    by_cases c40 : ((rd_T88 l0_0 a2).f0) = 10
    rotate_left
    ·
     rw [if_neg c40] at H
     have c40b0 : (((rd_T88 l0_0 a2).f0) == 10) = false := beq_eq_false_iff_ne.mpr c40
     have c40b1 : (((rd_T88 l0_0 a2).f0) != 10) = true := bne_iff_ne.mpr c40
     have H' := As.mk H
     clear H
     go_wp2
     go_meet
     case rel => exact ⟨_, ((((rd_T88 l0_0 a2).f0) == 11)), (by first | rfl | (simp; done) | (simp [*]; done)), H', ⟨by have := HJ6.out; first | omega | exact Nat.le_refl _⟩, ⟨bx BK375.out⟩, ⟨bx BK377.out⟩, ⟨be w⟩⟩
    rw [if_pos c40] at H
    have c40b0 : (((rd_T88 l0_0 a2).f0) == 10) = true := beq_iff_eq.mpr c40
    have c40b1 : (((rd_T88 l0_0 a2).f0) != 10) = false := bne_eq_false_iff_eq.mpr c40
    clear c40
    have H' := As.mk H
    clear H
    go_wp2
    go_meet
    case rel => exact ⟨_, ((((rd_T88 l0_0 a2).f0) == 10)), (by first | rfl | (simp; done) | (simp [*]; done)), H', ⟨by have := HJ6.out; first | omega | exact Nat.le_refl _⟩, ⟨bx BK375.out⟩, ⟨bx BK377.out⟩, ⟨be w⟩⟩
   case rest =>
    clear HC38
    (try clear c1); (try clear c4); (try clear c4b0); (try clear c5); (try clear c5b0); (try clear c16); (try clear c17); (try clear c17b0); (try clear c17b1); (try clear c18); (try clear c18b0); (try clear c18b1); (try clear c22); (try clear c22b0); (try clear c22b1); (try clear c26); (try clear c26b0); (try clear c26b1); (try clear c28); (try clear c28b0); (try clear c28b1); (try clear c30); (try clear c30b0); (try clear c30b1); (try clear hcz12_0); (try clear hcz12_1); (try clear hcz12_2); (try clear hcz12_3); (try clear hcz14_0); (try clear hcz14_1); (try clear hcz14_2); (try clear hcz14_3); (try clear hcz9_0); (try clear hcz9_1); (try clear hfz12_0); (try clear hfz12_1); (try clear hfz12_2); (try clear hfz12_3); (try clear hfz14_0); (try clear hfz14_1); (try clear hfz14_2); (try clear hfz14_3); (try clear hfz9_0); (try clear hfz9_1); (try clear hx376_0); (try clear hx376_1); (try clear hx376_2); (try clear hx376_3); (try clear p376); (try clear q376)
    obtain ⟨kq, x68_37, rfl, HA, HJ37, BK375, BK377, HB⟩ := hcut
    cases kq with
    | zero => exact absurd HA.out (by simp [impl_typeOf.j1])
    | succ kj37 =>
     have H := HA.out
     clear HA
     simp only [impl_typeOf.j1] at H
     by_cases c41 : x68_37 = true
     rotate_left
     ·
      replace c41 := Bool.eq_false_iff.mpr c41
      subst c41
      rw [if_neg (show ¬ (false = true) by decide)] at H
      by_cases c56 : ((rd_T88 l0_0 a2).f0) = 12
      rotate_left
      ·
       rw [if_neg c56] at H
       have c56b0 : (((rd_T88 l0_0 a2).f0) == 12) = false := beq_eq_false_iff_ne.mpr c56
       have c56b1 : (((rd_T88 l0_0 a2).f0) != 12) = true := bne_iff_ne.mpr c56
       obtain rfl := Option.some.inj H
       go_wp2
       go_ret
       exact (ew (be w))
      rw [if_pos c56] at H
      have c56b0 : (((rd_T88 l0_0 a2).f0) == 12) = true := beq_iff_eq.mpr c56
      have c56b1 : (((rd_T88 l0_0 a2).f0) != 12) = false := bne_eq_false_iff_eq.mpr c56
      clear c56
      obtain ⟨t385, A570, H⟩ := Option.bind_eq_some_iff.mp H
      try dsimp only at H
      have A57 := As.mk A570
      clear A570
      by_cases c58 : t385 = true
      rotate_left
      ·
       replace c58 := Bool.eq_false_iff.mpr c58
       subst c58
       rw [if_neg (show ¬ (false = true) by decide)] at H
       obtain rfl := Option.some.inj H
       obtain ⟨hcz67_0, hcz67_1, hfz67_0, hfz67_1⟩ := cl2 BK375.out
       go_wp2_with (first | ((with_reducible refine gate_callee (f := 102) rfl ?_); refine goesL_ (some 95) rfl rfl Tryd.func102 (by kernel_rfl) rfl #[.agg #[.slice (some ad376) l0_0.length c0_0, .slice A0_1 l0_1.length c0_1], .slice A1 l1.length c1, .int .i64 a2] rfl (by (try simp only [lm]); first | done | rfl | (simp only [List.length_drop, List.length_take]; rfl)) ?_; (with_reducible refine (ih_impl_callRight kj37 (by have := HJ6.out; have := HJ37.out; omega) _ _ l0_0 _ _ l0_1 _ _ l1 a2 false _ ?side1 ?side2 ?side3 ?side4 ?side5 ?side6 A57.out).mono ?_); (case side1 => exact Kd.C_below HR0_0.out (be w)); (case side2 => exact HC0_0.out); (case side3 => exact Kd.C_below HR0_1.out (be w)); (case side4 => exact HC0_1.out); (case side5 => exact Kd.C_below HR1.out (be w)); (case side6 => exact HC1.out); rintro e w68 ⟨rfl, hb⟩; refine ⟨_, rfl, ?_⟩; replace HB := As.mk (below_step (be w) hb); (try clear hb); (try clear hb2); (try clear hk); (try clear hi)))
       go_ret
       exact (ew (be w))
      subst c58
      rw [if_pos rfl] at H
      obtain ⟨t386, A590, H⟩ := Option.bind_eq_some_iff.mp H
      try dsimp only at H
      have A59 := As.mk A590
      clear A590
      by_cases c60 : 0 ≤ t386
      rotate_left; · rw [if_neg c60] at H; exact absurd H (by simp)
      rw [if_pos c60] at H
      have c60b0 : decide (0 ≤ t386) = true := decide_eq_true c60
      clear c60
      by_cases c61 : t386 < (l0_1.length : Int)
      rotate_left; · rw [if_neg c61] at H; exact absurd H (by simp)
      rw [if_pos c61] at H
      have c61b0 : decide (t386 < (l0_1.length : Int)) = true := decide_eq_true c61
      clear c61
      obtain rfl := Option.some.inj H
      have hnb62 := NB375_377.out
      have hnc62 := NB377_375.out
      obtain ⟨hcz63_0, hcz63_1, hfz63_0, hfz63_1⟩ := cl2 BK375.out
      try go_wp2_with (first | ((with_reducible refine gate_callee (f := 102) rfl ?_); refine goesL_ (some 95) rfl rfl Tryd.func102 (by kernel_rfl) rfl #[.agg #[.slice (some ad376) l0_0.length c0_0, .slice A0_1 l0_1.length c0_1], .slice A1 l1.length c1, .int .i64 a2] rfl (by (try simp only [lm]); first | done | rfl | (simp only [List.length_drop, List.length_take]; rfl)) ?_; (with_reducible refine (ih_impl_callRight kj37 (by have := HJ6.out; have := HJ37.out; omega) _ _ l0_0 _ _ l0_1 _ _ l1 a2 true _ ?side1 ?side2 ?side3 ?side4 ?side5 ?side6 A57.out).mono ?_); (case side1 => exact Kd.C_below HR0_0.out (be w)); (case side2 => exact HC0_0.out); (case side3 => exact Kd.C_below HR0_1.out (be w)); (case side4 => exact HC0_1.out); (case side5 => exact Kd.C_below HR1.out (be w)); (case side6 => exact HC1.out); rintro e w64 ⟨rfl, hb⟩; refine ⟨_, rfl, ?_⟩; replace BK375 := As.mk (blk_below (bx BK375.out) hb); replace BK377 := As.mk (blk_below (bx BK377.out) hb); replace HB := As.mk (below_step (be w) hb); (try clear hb); (try clear hb2); (try clear hk); (try clear hi)))
      replace BK375 := As.mk (blk_drew BK375.out)
      replace BK377 := As.mk (blk_drew BK377.out)
      replace HB := As.mk (below_drew1 HB.out)
      have p387 : 0 ≤ (t386 : Int) := od
      have q387 : t386 < (l0_1.length : Int) := od
      obtain ⟨ad387, A387_1, c387_1, e387, hx387_0, hx387_1, hx387_2, hx387_3, hx387_4, hl387_1, hi387_1⟩ := at_T125 HR0_1.out t386 p387 q387
      have hw387_4 := hx387_4
      have hw387_3 := hx387_3
      have hw387_2 := hx387_2
      have hw387_1 := hx387_1
      have hw387_0 := hx387_0
      cases e387
      replace hx387_0 := ce HB.out hx387_0
      replace hx387_1 := ce HB.out hx387_1
      replace hx387_2 := ce HB.out hx387_2
      replace hx387_3 := ce HB.out hx387_3
      replace hx387_4 := ce HB.out hx387_4
      have HR387_1 := As.mk hi387_1
      have HC387_1 := As.mk hl387_1
      clear hi387_1 hl387_1
      replace p387 := eq_true p387
      replace q387 := eq_true q387
      refine start_ (n := 10) (S := fun w' => w'.cell? ⟨gb375, 0, none⟩ = some (.slice (some ad376) l0_0.length c0_0) ∧ w'.cell? ⟨gb375, 1, none⟩ = some (.slice (some ad387) l0_1.length c0_1) ∧ w'.cell? ⟨gb377, 0, none⟩ = some (.int .i64 ((rd_T88 l0_0 a2).f0)) ∧ w'.cell? ⟨gb377, 1, none⟩ = some (.int .i64 ((rd_T88 l0_0 a2).f1)) ∧ w'.cell? ⟨gb377, 2, none⟩ = some (.string ((rd_T88 l0_0 a2).f2)) ∧ w'.cell? ⟨gb377, 3, none⟩ = some (.slice A376_3 ((rd_T88 l0_0 a2).f3).length c376_3) ∧ w'.cell? (ad387.add ((t386).toNat * 5)) = some (.string ((rd_T125 l0_1 t386).f0)) ∧ w'.cell? ⟨(ad387.add ((t386).toNat * 5)).block, (ad387.add ((t386).toNat * 5)).off + 1, none⟩ = some (.slice A387_1 ((rd_T125 l0_1 t386).f1).length c387_1) ∧ w'.cell? ⟨(ad387.add ((t386).toNat * 5)).block, (ad387.add ((t386).toNat * 5)).off + 2, none⟩ = some (.int .i64 ((rd_T125 l0_1 t386).f2)) ∧ w'.cell? ⟨(ad387.add ((t386).toNat * 5)).block, (ad387.add ((t386).toNat * 5)).off + 3, none⟩ = some (.int .i64 ((rd_T125 l0_1 t386).f3)) ∧ w'.cell? ⟨(ad387.add ((t386).toNat * 5)).block, (ad387.add ((t386).toNat * 5)).off + 4, none⟩ = some (.int .i64 ((rd_T125 l0_1 t386).f4))) (ds := []) #[O, O, O, O, O, O, O, O, O, O] (by kernel_rfl) rfl rfl ⟨(blk_cell BK375.out 0).trans rfl, (blk_cell BK375.out 1).trans rfl, (blk_cell BK377.out 0).trans rfl, (blk_cell BK377.out 1).trans rfl, (blk_cell BK377.out 2).trans rfl, (blk_cell BK377.out 3).trans rfl, (ce HB.out hw387_0 :), (ce HB.out hw387_1 :), (ce HB.out hw387_2 :), (ce HB.out hw387_3 :), (ce HB.out hw387_4 :)⟩ (fun hHeld => ?_); refine with_tabW impl_typeOf.tab31 impl_typeOf.bits31 (fun HT_ HW_ => ?_)
      generalize w64.drew = w65 at BK375 BK377 HB HR387_1 hx387_0 hx387_1 hx387_2 hx387_3 hx387_4 hHeld ⊢
      refine pure_ (i := 0) (N := some 96) (v := ?_) (a' := ?_) #[I, O, O, O, O, O, O, O, O, O] rfl rfl (any_of HT_.out (by kernel_rfl)) (fun _ _ _ h => h) (Or.inl ⟨by rfl, ?_⟩) ?_ ?_
      rotate_left; · intro w'; go_simp; with_reducible rfl
      rotate_left; · simp only [pk, i64_w, i32_w]; rfl
      refine pure_ (i := 3) (N := some 99) (v := ?_) (a' := ?_) #[I, O, O, I, O, O, O, O, O, O] rfl rfl (any_of HT_.out (by kernel_rfl)) (fun _ _ _ h => h) (Or.inl ⟨by rfl, ?_⟩) ?_ ?_
      rotate_left; · intro w'; go_simp; with_reducible rfl
      rotate_left; · simp only [pk, i64_w, i32_w]; rfl
      refine take_ (i := 1) (N := some 97) (v := ?_) (a' := ?_) #[I, I, O, I, O, O, O, O, O, O] rfl rfl (take_ofW HT_.out HW_.out (by kernel_rfl)) (fun _ _ _ h => h) (Or.inl ⟨by rfl, ?_⟩) hHeld ?_ ?_
      rotate_left; · rintro w' ⟨s0, s1, s2, s3, s4, s5, s6, s7, s8, s9, s10⟩; go_simp; with_reducible rfl
      rotate_left; · simp only [pk, i64_w, i32_w]; rfl
      refine take_ (i := 2) (N := some 98) (v := ?_) (a' := ?_) #[I, I, I, I, O, O, O, O, O, O] rfl rfl (take_ofW HT_.out HW_.out (by kernel_rfl)) (fun _ _ _ h => h) (Or.inl ⟨by rfl, ?_⟩) hHeld ?_ ?_
      rotate_left; · rintro w' ⟨s0, s1, s2, s3, s4, s5, s6, s7, s8, s9, s10⟩; go_simp; with_reducible rfl
      rotate_left; · simp only [pk, i64_w, i32_w]; rfl
      refine take_ (i := 4) (N := some 100) (v := ?_) (a' := ?_) #[I, I, I, I, I, O, O, O, O, O] rfl rfl (take_ofW HT_.out HW_.out (by kernel_rfl)) (fun _ _ _ h => h) (Or.inl ⟨by rfl, ?_⟩) hHeld ?_ ?_
      rotate_left; · rintro w' ⟨s0, s1, s2, s3, s4, s5, s6, s7, s8, s9, s10⟩; go_simp; with_reducible rfl
      rotate_left; · simp only [pk, i64_w, i32_w]; rfl
      refine one_ (i := 5) (N := some 101) #[I, I, I, I, I, I, O, O, O, O] rfl rfl (one_of HT_.out (by kernel_rfl)) (by decide) (fun K hK => ?_)
      refine goes_ Tryd.func103 (by kernel_rfl) rfl #[.agg #[.slice (some ad376) l0_0.length c0_0, .slice (some ad387) l0_1.length c0_1], .string ((rd_T88 l0_0 a2).f2)] (by rfl) rfl rfl (by (try simp only [lm]); first | done | rfl | (simp only [List.length_drop, List.length_take]; rfl)) ?_
      with_reducible refine (impl_FnAt.calls kj37 _ _ l0_0 _ _ l0_1 ((rd_T88 l0_0 a2).f2) t386 _ ?side1 ?side2 ?side3 ?side4 A59.out).mono ?_
      (case side1 => exact Kd.C_below HR0_0.out (be w))
      (case side2 => exact HC0_0.out)
      (case side3 => exact Kd.C_below HR0_1.out (be w))
      (case side4 => exact HC0_1.out)
      rintro e w66 ⟨rfl, hb⟩
      refine ⟨_, rfl, ?_⟩
      replace BK375 := As.mk (blk_below (bx BK375.out) hb)
      replace BK377 := As.mk (blk_below (bx BK377.out) hb)
      replace HB := As.mk (below_step (be w) hb)
      (try clear hb)
      (try clear hb2)
      (try clear hk)
      (try clear hi)
      refine hK.out _ _ ⟨(blk_cell BK375.out 0).trans rfl, (blk_cell BK375.out 1).trans rfl, (blk_cell BK377.out 0).trans rfl, (blk_cell BK377.out 1).trans rfl, (blk_cell BK377.out 2).trans rfl, (blk_cell BK377.out 3).trans rfl, (ce HB.out hw387_0 :), (ce HB.out hw387_1 :), (ce HB.out hw387_2 :), (ce HB.out hw387_3 :), (ce HB.out hw387_4 :)⟩ (fun hHeld => ?_)
      clear hK K
      refine norm_ (a' := ?_) ?_ ?_
      rotate_left
      ·
       show Act.put _ (some 101) _ = _
       simp only [pk, i64_w, i32_w]
       rfl
      refine pure_ (i := 6) (N := some 102) (v := ?_) (a' := ?_) #[I, I, I, I, I, I, I, O, O, O] rfl rfl (any_of HT_.out (by kernel_rfl)) (fun _ _ _ h => h) (Or.inl ⟨by rfl, ?_⟩) ?_ ?_
      rotate_left; · intro w'; go_simp; with_reducible rfl
      rotate_left; · simp only [pk, i64_w, i32_w]; rfl
      refine pure_ (i := 7) (N := some 103) (v := ?_) (a' := ?_) #[I, I, I, I, I, I, I, I, O, O] rfl rfl (any_of HT_.out (by kernel_rfl)) (fun _ _ _ h => h) (Or.inl ⟨by rfl, ?_⟩) ?_ ?_
      rotate_left; · intro w'; go_simp; with_reducible rfl
      rotate_left; · simp only [pk, i64_w, i32_w]; rfl
      refine take_ (i := 8) (N := some 104) (v := ?_) (a' := ?_) #[I, I, I, I, I, I, I, I, I, O] rfl rfl (take_ofW HT_.out HW_.out (by kernel_rfl)) (fun _ _ _ h => h) (Or.inl ⟨by rfl, ?_⟩) hHeld ?_ ?_
      rotate_left; · rintro w' ⟨s0, s1, s2, s3, s4, s5, s6, s7, s8, s9, s10⟩; go_simp; with_reducible rfl
      rotate_left; · simp only [pk, i64_w, i32_w]; rfl
      refine pure_ (i := 9) (N := some 6) (v := ?_) (a' := ?_) #[I, I, I, I, I, I, I, I, I, I] rfl rfl (any_of HT_.out (by kernel_rfl)) (fun _ _ _ h => h) (Or.inl ⟨by rfl, ?_⟩) ?_ ?_
      rotate_left; · intro w'; go_simp; with_reducible rfl
      rotate_left; · simp only [pk, i64_w, i32_w]; rfl
      refine done_ (done_of HT_.out (by kernel_rfl)) ?_
      try go_wp2
      go_ret
      exact (ew (be w))
     subst c41
     rw [if_pos rfl] at H
     by_cases c42 : 0 < (((rd_T88 l0_0 a2).f3).length : Int)
     rotate_left; · rw [if_neg c42] at H; exact absurd H (by simp)
     rw [if_pos c42] at H
     have c42b0 : decide (0 < (((rd_T88 l0_0 a2).f3).length : Int)) = true := decide_eq_true c42
     have c42b1 : decide (0 < ((rd_T88 l0_0 a2).f3).length) = true := decide_eq_true (by omega)
     clear c42
     obtain ⟨t382, A430, H⟩ := Option.bind_eq_some_iff.mp H
     try dsimp only at H
     have A43 := As.mk A430
     clear A430
     by_cases c44 : t382 = 1
     rotate_left
     ·
      rw [if_neg c44] at H
      have c44b0 : (t382 == 1) = false := beq_eq_false_iff_ne.mpr c44
      have c44b1 : (t382 != 1) = true := bne_iff_ne.mpr c44
      obtain rfl := Option.some.inj H
      try go_wp2
      replace BK375 := As.mk (blk_drew BK375.out)
      replace BK377 := As.mk (blk_drew BK377.out)
      replace HB := As.mk (below_drew1 HB.out)
      have p381 : 0 ≤ (0 : Int) := (by omega)
      have q381 : 0 < (((rd_T88 l0_0 a2).f3).length : Int) := od
      obtain ⟨ad381, e381, hx381_0⟩ := Kd.at_int HR376_3.out 0 p381 q381
      have hw381_0 := hx381_0
      (try rw [show ((0 : Int)).toNat = 0 from rfl] at hw381_0)
      (try rw [show 0 * 1 = 0 from rfl] at hw381_0)
      (try rw [Addr.add_zero'] at hw381_0)
      cases e381
      have qi381 : (0 < ((rd_T88 l0_0 a2).f3).length) = True := eq_true (by omega)
      (try rw [show ((0 : Int)).toNat = 0 from rfl] at hx381_0)
      (try rw [Addr.add_zero'] at hx381_0)
      replace hx381_0 := ce HB.out hx381_0
      replace p381 := eq_true p381
      replace q381 := eq_true q381
      refine start_ (n := 18) (S := fun w' => w'.cell? ⟨gb375, 0, none⟩ = some (.slice (some ad376) l0_0.length c0_0) ∧ w'.cell? ⟨gb375, 1, none⟩ = some (.slice A0_1 l0_1.length c0_1) ∧ w'.cell? ⟨gb377, 0, none⟩ = some (.int .i64 ((rd_T88 l0_0 a2).f0)) ∧ w'.cell? ⟨gb377, 1, none⟩ = some (.int .i64 ((rd_T88 l0_0 a2).f1)) ∧ w'.cell? ⟨gb377, 2, none⟩ = some (.string ((rd_T88 l0_0 a2).f2)) ∧ w'.cell? ⟨gb377, 3, none⟩ = some (.slice (some ad381) ((rd_T88 l0_0 a2).f3).length c376_3) ∧ w'.cell? ad381 = some (.int .i64 (rd ((rd_T88 l0_0 a2).f3) 0))) (ds := []) #[O, O, O, O, O, O, O, O, O, O, O, O, O, O, O, O, O, O] (by kernel_rfl) rfl rfl ⟨(blk_cell BK375.out 0).trans rfl, (blk_cell BK375.out 1).trans rfl, (blk_cell BK377.out 0).trans rfl, (blk_cell BK377.out 1).trans rfl, (blk_cell BK377.out 2).trans rfl, (blk_cell BK377.out 3).trans rfl, (ce HB.out hw381_0 :)⟩ (fun hHeld => ?_); refine with_tabW impl_typeOf.tab27 impl_typeOf.bits27 (fun HT_ HW_ => ?_)
      generalize wc.drew = w54 at BK375 BK377 HB hx381_0 hHeld ⊢
      refine pure_ (i := 1) (N := some 73) (v := ?_) (a' := ?_) #[O, I, O, O, O, O, O, O, O, O, O, O, O, O, O, O, O, O] rfl rfl (any_of HT_.out (by kernel_rfl)) (fun _ _ _ h => h) (Or.inl ⟨by rfl, ?_⟩) ?_ ?_
      rotate_left; · intro w'; go_simp; with_reducible rfl
      rotate_left; · simp only [pk, i64_w, i32_w]; rfl
      refine pure_ (i := 2) (N := some 74) (v := ?_) (a' := ?_) #[O, I, I, O, O, O, O, O, O, O, O, O, O, O, O, O, O, O] rfl rfl (any_of HT_.out (by kernel_rfl)) (fun _ _ _ h => h) (Or.inl ⟨by rfl, ?_⟩) ?_ ?_
      rotate_left; · intro w'; go_simp; with_reducible rfl
      rotate_left; · simp only [pk, i64_w, i32_w]; rfl
      refine take_ (i := 0) (N := some 72) (v := ?_) (a' := ?_) #[I, I, I, O, O, O, O, O, O, O, O, O, O, O, O, O, O, O] rfl rfl (take_ofW HT_.out HW_.out (by kernel_rfl)) (fun _ _ _ h => h) (Or.inl ⟨by rfl, ?_⟩) hHeld ?_ ?_
      rotate_left; · rintro w' ⟨s0, s1, s2, s3, s4, s5, s6⟩; go_simp; with_reducible rfl
      rotate_left; · simp only [pk, i64_w, i32_w]; rfl
      refine take_ (i := 3) (N := some 75) (v := ?_) (a' := ?_) #[I, I, I, I, O, O, O, O, O, O, O, O, O, O, O, O, O, O] rfl rfl (take_ofW HT_.out HW_.out (by kernel_rfl)) (fun _ _ _ h => h) (Or.inl ⟨by rfl, ?_⟩) hHeld ?_ ?_
      rotate_left; · rintro w' ⟨s0, s1, s2, s3, s4, s5, s6⟩; go_simp; with_reducible rfl
      rotate_left; · simp only [pk, i64_w, i32_w]; rfl
      refine pure_ (i := 4) (N := some 76) (v := ?_) (a' := ?_) #[I, I, I, I, I, O, O, O, O, O, O, O, O, O, O, O, O, O] rfl rfl (any_of HT_.out (by kernel_rfl)) (fun _ _ _ h => h) (Or.inl ⟨by rfl, ?_⟩) ?_ ?_
      rotate_left; · intro w'; go_simp; with_reducible rfl
      rotate_left; · simp only [pk, i64_w, i32_w]; rfl
      refine take_ (i := 5) (N := some 77) (v := ?_) (a' := ?_) #[I, I, I, I, I, I, O, O, O, O, O, O, O, O, O, O, O, O] rfl rfl (take_ofW HT_.out HW_.out (by kernel_rfl)) (fun _ _ _ h => h) (Or.inl ⟨by rfl, ?_⟩) hHeld ?_ ?_
      rotate_left; · rintro w' ⟨s0, s1, s2, s3, s4, s5, s6⟩; go_simp; with_reducible rfl
      rotate_left; · simp only [pk, i64_w, i32_w]; rfl
      refine one_ (i := 6) (N := some 78) #[I, I, I, I, I, I, I, O, O, O, O, O, O, O, O, O, O, O] rfl rfl (one_of HT_.out (by kernel_rfl)) (by decide) (fun K hK => ?_)
      refine goes_ Tryd.func76 (by kernel_rfl) rfl #[.agg #[.slice (some ad376) l0_0.length c0_0, .slice A0_1 l0_1.length c0_1], .slice A1 l1.length c1, .int .i64 (rd ((rd_T88 l0_0 a2).f3) 0)] (by rfl) rfl rfl (by (try simp only [lm]); first | done | rfl | (simp only [List.length_drop, List.length_take]; rfl)) ?_
      with_reducible refine (ih kj37 (by have := HJ6.out; have := HJ37.out; omega) _ _ l0_0 _ _ l0_1 _ _ l1 (rd ((rd_T88 l0_0 a2).f3) 0) t382 _ ?side1 ?side2 ?side3 ?side4 ?side5 ?side6 A43.out).mono ?_
      (case side1 => exact Kd.C_below HR0_0.out (be w))
      (case side2 => exact HC0_0.out)
      (case side3 => exact Kd.C_below HR0_1.out (be w))
      (case side4 => exact HC0_1.out)
      (case side5 => exact Kd.C_below HR1.out (be w))
      (case side6 => exact HC1.out)
      rintro e w55 ⟨rfl, hb⟩
      refine ⟨_, rfl, ?_⟩
      replace BK375 := As.mk (blk_below (bx BK375.out) hb)
      replace BK377 := As.mk (blk_below (bx BK377.out) hb)
      replace HB := As.mk (below_step (be w) hb)
      (try clear hb)
      (try clear hb2)
      (try clear hk)
      (try clear hi)
      refine hK.out _ _ ⟨(blk_cell BK375.out 0).trans rfl, (blk_cell BK375.out 1).trans rfl, (blk_cell BK377.out 0).trans rfl, (blk_cell BK377.out 1).trans rfl, (blk_cell BK377.out 2).trans rfl, (blk_cell BK377.out 3).trans rfl, (ce HB.out hw381_0 :)⟩ (fun hHeld => ?_)
      clear hK K
      refine norm_ (a' := ?_) ?_ ?_
      rotate_left
      ·
       show Act.put _ (some 78) _ = _
       simp only [pk, i64_w, i32_w]
       rfl
      refine pure_ (i := 7) (N := some 79) (v := ?_) (a' := ?_) #[I, I, I, I, I, I, I, I, O, O, O, O, O, O, O, O, O, O] rfl rfl (any_of HT_.out (by kernel_rfl)) (fun _ _ _ h => h) (Or.inl ⟨by rfl, ?_⟩) ?_ ?_
      rotate_left; · intro w'; go_simp; with_reducible rfl
      rotate_left; · simp only [pk, i64_w, i32_w]; rfl
      refine pure_ (i := 8) (N := some 80) (v := ?_) (a' := ?_) #[I, I, I, I, I, I, I, I, I, O, O, O, O, O, O, O, O, O] rfl rfl (any_of HT_.out (by kernel_rfl)) (fun _ _ _ h => h) (Or.inl ⟨by rfl, ?_⟩) ?_ ?_
      rotate_left; · intro w'; go_simp; with_reducible rfl
      rotate_left; · simp only [pk, i64_w, i32_w]; rfl
      refine pure_ (i := 9) (N := some 81) (v := undef) (a' := ?_) #[I, I, I, I, I, I, I, I, I, I, O, O, O, O, O, O, O, O] rfl rfl (any_of HT_.out (by kernel_rfl)) (fun _ _ _ h => h) (Or.inr ⟨by rfl, rfl⟩) ?_ ?_
      rotate_left; · simp only [pk, i64_w, i32_w]; rfl
      refine pure_ (i := 10) (N := some 82) (v := undef) (a' := ?_) #[I, I, I, I, I, I, I, I, I, I, I, O, O, O, O, O, O, O] rfl rfl (any_of HT_.out (by kernel_rfl)) (fun _ _ _ h => h) (Or.inr ⟨by rfl, rfl⟩) ?_ ?_
      rotate_left; · simp only [pk, i64_w, i32_w]; rfl
      refine pure_ (i := 11) (N := some 83) (v := undef) (a' := ?_) #[I, I, I, I, I, I, I, I, I, I, I, I, O, O, O, O, O, O] rfl rfl (any_of HT_.out (by kernel_rfl)) (fun _ _ _ h => h) (Or.inr ⟨by rfl, rfl⟩) ?_ ?_
      rotate_left; · simp only [pk, i64_w, i32_w]; rfl
      refine pure_ (i := 12) (N := some 84) (v := undef) (a' := ?_) #[I, I, I, I, I, I, I, I, I, I, I, I, I, O, O, O, O, O] rfl rfl (any_of HT_.out (by kernel_rfl)) (fun _ _ _ h => h) (Or.inr ⟨by rfl, rfl⟩) ?_ ?_
      rotate_left; · simp only [pk, i64_w, i32_w]; rfl
      refine pure_ (i := 13) (N := some 85) (v := undef) (a' := ?_) #[I, I, I, I, I, I, I, I, I, I, I, I, I, I, O, O, O, O] rfl rfl (any_of HT_.out (by kernel_rfl)) (fun _ _ _ h => h) (Or.inr ⟨by rfl, rfl⟩) ?_ ?_
      rotate_left; · simp only [pk, i64_w, i32_w]; rfl
      refine pure_ (i := 14) (N := some 86) (v := undef) (a' := ?_) #[I, I, I, I, I, I, I, I, I, I, I, I, I, I, I, O, O, O] rfl rfl (any_of HT_.out (by kernel_rfl)) (fun _ _ _ h => h) (Or.inr ⟨by rfl, rfl⟩) ?_ ?_
      rotate_left; · simp only [pk, i64_w, i32_w]; rfl
      refine pure_ (i := 15) (N := some 87) (v := undef) (a' := ?_) #[I, I, I, I, I, I, I, I, I, I, I, I, I, I, I, I, O, O] rfl rfl (any_of HT_.out (by kernel_rfl)) (fun _ _ _ h => h) (Or.inr ⟨by rfl, rfl⟩) ?_ ?_
      rotate_left; · simp only [pk, i64_w, i32_w]; rfl
      refine pure_ (i := 16) (N := some 88) (v := undef) (a' := ?_) #[I, I, I, I, I, I, I, I, I, I, I, I, I, I, I, I, I, O] rfl rfl (any_of HT_.out (by kernel_rfl)) (fun _ _ _ h => h) (Or.inr ⟨by rfl, rfl⟩) ?_ ?_
      rotate_left; · simp only [pk, i64_w, i32_w]; rfl
      refine pure_ (i := 17) (N := some 89) (v := ?_) (a' := ?_) #[I, I, I, I, I, I, I, I, I, I, I, I, I, I, I, I, I, I] rfl rfl (any_of HT_.out (by kernel_rfl)) (fun _ _ _ h => h) (Or.inl ⟨by rfl, ?_⟩) ?_ ?_
      rotate_left; · intro w'; go_simp; with_reducible rfl
      rotate_left; · simp only [pk, i64_w, i32_w]; rfl
      refine done_ (done_of HT_.out (by kernel_rfl)) ?_
      try go_wp2
      go_ret
      exact (ew (be w))
     rw [if_pos c44] at H
     have c44b0 : (t382 == 1) = true := beq_iff_eq.mpr c44
     have c44b1 : (t382 != 1) = false := bne_eq_false_iff_eq.mpr c44
     clear c44
     by_cases c45 : 1 < (((rd_T88 l0_0 a2).f3).length : Int)
     rotate_left; · rw [if_neg c45] at H; exact absurd H (by simp)
     rw [if_pos c45] at H
     have c45b0 : decide (1 < (((rd_T88 l0_0 a2).f3).length : Int)) = true := decide_eq_true c45
     have c45b1 : decide (1 < ((rd_T88 l0_0 a2).f3).length) = true := decide_eq_true (by omega)
     clear c45
     obtain ⟨t384, A460, H⟩ := Option.bind_eq_some_iff.mp H
     try dsimp only at H
     have A46 := As.mk A460
     clear A460
     by_cases c47 : t384 = 1
     rotate_left
     ·
      rw [if_neg c47] at H
      have c47b0 : (t384 == 1) = false := beq_eq_false_iff_ne.mpr c47
      have c47b1 : (t384 != 1) = true := bne_iff_ne.mpr c47
      obtain rfl := Option.some.inj H
      try go_wp2
      replace BK375 := As.mk (blk_drew BK375.out)
      replace BK377 := As.mk (blk_drew BK377.out)
      replace HB := As.mk (below_drew1 HB.out)
      have p381 : 0 ≤ (0 : Int) := (by omega)
      have q381 : 0 < (((rd_T88 l0_0 a2).f3).length : Int) := od
      obtain ⟨ad381, e381, hx381_0⟩ := Kd.at_int HR376_3.out 0 p381 q381
      have hw381_0 := hx381_0
      (try rw [show ((0 : Int)).toNat = 0 from rfl] at hw381_0)
      (try rw [show 0 * 1 = 0 from rfl] at hw381_0)
      (try rw [Addr.add_zero'] at hw381_0)
      cases e381
      have qi381 : (0 < ((rd_T88 l0_0 a2).f3).length) = True := eq_true (by omega)
      (try rw [show ((0 : Int)).toNat = 0 from rfl] at hx381_0)
      (try rw [Addr.add_zero'] at hx381_0)
      replace hx381_0 := ce HB.out hx381_0
      replace p381 := eq_true p381
      replace q381 := eq_true q381
      have p383 : 0 ≤ (1 : Int) := (by omega)
      have q383 : 1 < (((rd_T88 l0_0 a2).f3).length : Int) := od
      obtain ⟨ad383, e383, hx383_0⟩ := Kd.at_int HR376_3.out 1 p383 q383
      have hw383_0 := hx383_0
      (try rw [show ((1 : Int)).toNat = 1 from rfl] at hw383_0)
      (try rw [show 1 * 1 = 1 from rfl] at hw383_0)
      (try simp only [Nat.reduceMul, Nat.reduceEqDiff, Go.Addr.add, ↓reduceIte] at hw383_0)
      obtain rfl : ad381 = ad383 := (by injection e383)
      (try simp only [show (1 : Int).toNat = 1 from rfl, Nat.reduceMul, Nat.reduceEqDiff, Go.Addr.add, ↓reduceIte] at hx383_0)
      have qi383 : (1 < ((rd_T88 l0_0 a2).f3).length) = True := eq_true (by omega)
      (try rw [show ((1 : Int)).toNat = 1 from rfl] at hx383_0)
      replace hx383_0 := ce HB.out hx383_0
      replace p383 := eq_true p383
      replace q383 := eq_true q383
      refine start_ (n := 18) (S := fun w' => w'.cell? ⟨gb375, 0, none⟩ = some (.slice (some ad376) l0_0.length c0_0) ∧ w'.cell? ⟨gb375, 1, none⟩ = some (.slice A0_1 l0_1.length c0_1) ∧ w'.cell? ⟨gb377, 0, none⟩ = some (.int .i64 ((rd_T88 l0_0 a2).f0)) ∧ w'.cell? ⟨gb377, 1, none⟩ = some (.int .i64 ((rd_T88 l0_0 a2).f1)) ∧ w'.cell? ⟨gb377, 2, none⟩ = some (.string ((rd_T88 l0_0 a2).f2)) ∧ w'.cell? ⟨gb377, 3, none⟩ = some (.slice (some ad381) ((rd_T88 l0_0 a2).f3).length c376_3) ∧ w'.cell? ad381 = some (.int .i64 (rd ((rd_T88 l0_0 a2).f3) 0)) ∧ w'.cell? ⟨ad381.block, ad381.off + 1, none⟩ = some (.int .i64 (rd ((rd_T88 l0_0 a2).f3) 1))) (ds := []) #[O, O, O, O, O, O, O, O, O, O, O, O, O, O, O, O, O, O] (by kernel_rfl) rfl rfl ⟨(blk_cell BK375.out 0).trans rfl, (blk_cell BK375.out 1).trans rfl, (blk_cell BK377.out 0).trans rfl, (blk_cell BK377.out 1).trans rfl, (blk_cell BK377.out 2).trans rfl, (blk_cell BK377.out 3).trans rfl, (ce HB.out hw381_0 :), (ce HB.out hw383_0 :)⟩ (fun hHeld => ?_); refine with_tabW impl_typeOf.tab27 impl_typeOf.bits27 (fun HT_ HW_ => ?_)
      generalize wc.drew = w51 at BK375 BK377 HB hx381_0 hx383_0 hHeld ⊢
      refine pure_ (i := 1) (N := some 73) (v := ?_) (a' := ?_) #[O, I, O, O, O, O, O, O, O, O, O, O, O, O, O, O, O, O] rfl rfl (any_of HT_.out (by kernel_rfl)) (fun _ _ _ h => h) (Or.inl ⟨by rfl, ?_⟩) ?_ ?_
      rotate_left; · intro w'; go_simp; with_reducible rfl
      rotate_left; · simp only [pk, i64_w, i32_w]; rfl
      refine pure_ (i := 2) (N := some 74) (v := ?_) (a' := ?_) #[O, I, I, O, O, O, O, O, O, O, O, O, O, O, O, O, O, O] rfl rfl (any_of HT_.out (by kernel_rfl)) (fun _ _ _ h => h) (Or.inl ⟨by rfl, ?_⟩) ?_ ?_
      rotate_left; · intro w'; go_simp; with_reducible rfl
      rotate_left; · simp only [pk, i64_w, i32_w]; rfl
      refine take_ (i := 0) (N := some 72) (v := ?_) (a' := ?_) #[I, I, I, O, O, O, O, O, O, O, O, O, O, O, O, O, O, O] rfl rfl (take_ofW HT_.out HW_.out (by kernel_rfl)) (fun _ _ _ h => h) (Or.inl ⟨by rfl, ?_⟩) hHeld ?_ ?_
      rotate_left; · rintro w' ⟨s0, s1, s2, s3, s4, s5, s6, s7⟩; go_simp; with_reducible rfl
      rotate_left; · simp only [pk, i64_w, i32_w]; rfl
      refine take_ (i := 3) (N := some 75) (v := ?_) (a' := ?_) #[I, I, I, I, O, O, O, O, O, O, O, O, O, O, O, O, O, O] rfl rfl (take_ofW HT_.out HW_.out (by kernel_rfl)) (fun _ _ _ h => h) (Or.inl ⟨by rfl, ?_⟩) hHeld ?_ ?_
      rotate_left; · rintro w' ⟨s0, s1, s2, s3, s4, s5, s6, s7⟩; go_simp; with_reducible rfl
      rotate_left; · simp only [pk, i64_w, i32_w]; rfl
      refine pure_ (i := 4) (N := some 76) (v := ?_) (a' := ?_) #[I, I, I, I, I, O, O, O, O, O, O, O, O, O, O, O, O, O] rfl rfl (any_of HT_.out (by kernel_rfl)) (fun _ _ _ h => h) (Or.inl ⟨by rfl, ?_⟩) ?_ ?_
      rotate_left; · intro w'; go_simp; with_reducible rfl
      rotate_left; · simp only [pk, i64_w, i32_w]; rfl
      refine take_ (i := 5) (N := some 77) (v := ?_) (a' := ?_) #[I, I, I, I, I, I, O, O, O, O, O, O, O, O, O, O, O, O] rfl rfl (take_ofW HT_.out HW_.out (by kernel_rfl)) (fun _ _ _ h => h) (Or.inl ⟨by rfl, ?_⟩) hHeld ?_ ?_
      rotate_left; · rintro w' ⟨s0, s1, s2, s3, s4, s5, s6, s7⟩; go_simp; with_reducible rfl
      rotate_left; · simp only [pk, i64_w, i32_w]; rfl
      refine one_ (i := 6) (N := some 78) #[I, I, I, I, I, I, I, O, O, O, O, O, O, O, O, O, O, O] rfl rfl (one_of HT_.out (by kernel_rfl)) (by decide) (fun K hK => ?_)
      refine goes_ Tryd.func76 (by kernel_rfl) rfl #[.agg #[.slice (some ad376) l0_0.length c0_0, .slice A0_1 l0_1.length c0_1], .slice A1 l1.length c1, .int .i64 (rd ((rd_T88 l0_0 a2).f3) 0)] (by rfl) rfl rfl (by (try simp only [lm]); first | done | rfl | (simp only [List.length_drop, List.length_take]; rfl)) ?_
      with_reducible refine (ih kj37 (by have := HJ6.out; have := HJ37.out; omega) _ _ l0_0 _ _ l0_1 _ _ l1 (rd ((rd_T88 l0_0 a2).f3) 0) t382 _ ?side1 ?side2 ?side3 ?side4 ?side5 ?side6 A43.out).mono ?_
      (case side1 => exact Kd.C_below HR0_0.out (be w))
      (case side2 => exact HC0_0.out)
      (case side3 => exact Kd.C_below HR0_1.out (be w))
      (case side4 => exact HC0_1.out)
      (case side5 => exact Kd.C_below HR1.out (be w))
      (case side6 => exact HC1.out)
      rintro e w52 ⟨rfl, hb⟩
      refine ⟨_, rfl, ?_⟩
      replace BK375 := As.mk (blk_below (bx BK375.out) hb)
      replace BK377 := As.mk (blk_below (bx BK377.out) hb)
      replace HB := As.mk (below_step (be w) hb)
      (try clear hb)
      (try clear hb2)
      (try clear hk)
      (try clear hi)
      refine hK.out _ _ ⟨(blk_cell BK375.out 0).trans rfl, (blk_cell BK375.out 1).trans rfl, (blk_cell BK377.out 0).trans rfl, (blk_cell BK377.out 1).trans rfl, (blk_cell BK377.out 2).trans rfl, (blk_cell BK377.out 3).trans rfl, (ce HB.out hw381_0 :), (ce HB.out hw383_0 :)⟩ (fun hHeld => ?_)
      clear hK K
      refine norm_ (a' := ?_) ?_ ?_
      rotate_left
      ·
       show Act.put _ (some 78) _ = _
       simp only [pk, i64_w, i32_w]
       rfl
      refine pure_ (i := 7) (N := some 79) (v := ?_) (a' := ?_) #[I, I, I, I, I, I, I, I, O, O, O, O, O, O, O, O, O, O] rfl rfl (any_of HT_.out (by kernel_rfl)) (fun _ _ _ h => h) (Or.inl ⟨by rfl, ?_⟩) ?_ ?_
      rotate_left; · intro w'; go_simp; with_reducible rfl
      rotate_left; · simp only [pk, i64_w, i32_w]; rfl
      refine pure_ (i := 8) (N := some 80) (v := ?_) (a' := ?_) #[I, I, I, I, I, I, I, I, I, O, O, O, O, O, O, O, O, O] rfl rfl (any_of HT_.out (by kernel_rfl)) (fun _ _ _ h => h) (Or.inl ⟨by rfl, ?_⟩) ?_ ?_
      rotate_left; · intro w'; go_simp; with_reducible rfl
      rotate_left; · simp only [pk, i64_w, i32_w]; rfl
      refine pure_ (i := 10) (N := some 82) (v := ?_) (a' := ?_) #[I, I, I, I, I, I, I, I, I, O, I, O, O, O, O, O, O, O] rfl rfl (any_of HT_.out (by kernel_rfl)) (fun _ _ _ h => h) (Or.inl ⟨by rfl, ?_⟩) ?_ ?_
      rotate_left; · intro w'; go_simp; with_reducible rfl
      rotate_left; · simp only [pk, i64_w, i32_w]; rfl
      refine pure_ (i := 11) (N := some 83) (v := ?_) (a' := ?_) #[I, I, I, I, I, I, I, I, I, O, I, I, O, O, O, O, O, O] rfl rfl (any_of HT_.out (by kernel_rfl)) (fun _ _ _ h => h) (Or.inl ⟨by rfl, ?_⟩) ?_ ?_
      rotate_left; · intro w'; go_simp; with_reducible rfl
      rotate_left; · simp only [pk, i64_w, i32_w]; rfl
      refine take_ (i := 9) (N := some 81) (v := ?_) (a' := ?_) #[I, I, I, I, I, I, I, I, I, I, I, I, O, O, O, O, O, O] rfl rfl (take_ofW HT_.out HW_.out (by kernel_rfl)) (fun _ _ _ h => h) (Or.inl ⟨by rfl, ?_⟩) hHeld ?_ ?_
      rotate_left; · rintro w' ⟨s0, s1, s2, s3, s4, s5, s6, s7⟩; go_simp; with_reducible rfl
      rotate_left; · simp only [pk, i64_w, i32_w]; rfl
      refine take_ (i := 12) (N := some 84) (v := ?_) (a' := ?_) #[I, I, I, I, I, I, I, I, I, I, I, I, I, O, O, O, O, O] rfl rfl (take_ofW HT_.out HW_.out (by kernel_rfl)) (fun _ _ _ h => h) (Or.inl ⟨by rfl, ?_⟩) hHeld ?_ ?_
      rotate_left; · rintro w' ⟨s0, s1, s2, s3, s4, s5, s6, s7⟩; go_simp; with_reducible rfl
      rotate_left; · simp only [pk, i64_w, i32_w]; rfl
      refine pure_ (i := 13) (N := some 85) (v := ?_) (a' := ?_) #[I, I, I, I, I, I, I, I, I, I, I, I, I, I, O, O, O, O] rfl rfl (any_of HT_.out (by kernel_rfl)) (fun _ _ _ h => h) (Or.inl ⟨by rfl, ?_⟩) ?_ ?_
      rotate_left; · intro w'; go_simp; with_reducible rfl
      rotate_left; · simp only [pk, i64_w, i32_w]; rfl
      refine take_ (i := 14) (N := some 86) (v := ?_) (a' := ?_) #[I, I, I, I, I, I, I, I, I, I, I, I, I, I, I, O, O, O] rfl rfl (take_ofW HT_.out HW_.out (by kernel_rfl)) (fun _ _ _ h => h) (Or.inl ⟨by rfl, ?_⟩) hHeld ?_ ?_
      rotate_left; · rintro w' ⟨s0, s1, s2, s3, s4, s5, s6, s7⟩; go_simp; with_reducible rfl
      rotate_left; · simp only [pk, i64_w, i32_w]; rfl
      refine one_ (i := 15) (N := some 87) #[I, I, I, I, I, I, I, I, I, I, I, I, I, I, I, I, O, O] rfl rfl (one_of HT_.out (by kernel_rfl)) (by decide) (fun K hK => ?_)
      refine goes_ Tryd.func76 (by kernel_rfl) rfl #[.agg #[.slice (some ad376) l0_0.length c0_0, .slice A0_1 l0_1.length c0_1], .slice A1 l1.length c1, .int .i64 (rd ((rd_T88 l0_0 a2).f3) 1)] (by rfl) rfl rfl (by (try simp only [lm]); first | done | rfl | (simp only [List.length_drop, List.length_take]; rfl)) ?_
      with_reducible refine (ih kj37 (by have := HJ6.out; have := HJ37.out; omega) _ _ l0_0 _ _ l0_1 _ _ l1 (rd ((rd_T88 l0_0 a2).f3) 1) t384 _ ?side1 ?side2 ?side3 ?side4 ?side5 ?side6 A46.out).mono ?_
      (case side1 => exact Kd.C_below HR0_0.out (be w))
      (case side2 => exact HC0_0.out)
      (case side3 => exact Kd.C_below HR0_1.out (be w))
      (case side4 => exact HC0_1.out)
      (case side5 => exact Kd.C_below HR1.out (be w))
      (case side6 => exact HC1.out)
      rintro e w53 ⟨rfl, hb⟩
      refine ⟨_, rfl, ?_⟩
      replace BK375 := As.mk (blk_below (bx BK375.out) hb)
      replace BK377 := As.mk (blk_below (bx BK377.out) hb)
      replace HB := As.mk (below_step (be w) hb)
      (try clear hb)
      (try clear hb2)
      (try clear hk)
      (try clear hi)
      refine hK.out _ _ ⟨(blk_cell BK375.out 0).trans rfl, (blk_cell BK375.out 1).trans rfl, (blk_cell BK377.out 0).trans rfl, (blk_cell BK377.out 1).trans rfl, (blk_cell BK377.out 2).trans rfl, (blk_cell BK377.out 3).trans rfl, (ce HB.out hw381_0 :), (ce HB.out hw383_0 :)⟩ (fun hHeld => ?_)
      clear hK K
      refine norm_ (a' := ?_) ?_ ?_
      rotate_left
      ·
       show Act.put _ (some 87) _ = _
       simp only [pk, i64_w, i32_w]
       rfl
      refine pure_ (i := 16) (N := some 88) (v := ?_) (a' := ?_) #[I, I, I, I, I, I, I, I, I, I, I, I, I, I, I, I, I, O] rfl rfl (any_of HT_.out (by kernel_rfl)) (fun _ _ _ h => h) (Or.inl ⟨by rfl, ?_⟩) ?_ ?_
      rotate_left; · intro w'; go_simp; with_reducible rfl
      rotate_left; · simp only [pk, i64_w, i32_w]; rfl
      refine pure_ (i := 17) (N := some 89) (v := ?_) (a' := ?_) #[I, I, I, I, I, I, I, I, I, I, I, I, I, I, I, I, I, I] rfl rfl (any_of HT_.out (by kernel_rfl)) (fun _ _ _ h => h) (Or.inl ⟨by rfl, ?_⟩) ?_ ?_
      rotate_left; · intro w'; go_simp; with_reducible rfl
      rotate_left; · simp only [pk, i64_w, i32_w]; rfl
      refine done_ (done_of HT_.out (by kernel_rfl)) ?_
      try go_wp2
      go_ret
      exact (ew (be w))
     rw [if_pos c47] at H
     have c47b0 : (t384 == 1) = true := beq_iff_eq.mpr c47
     have c47b1 : (t384 != 1) = false := bne_eq_false_iff_eq.mpr c47
     clear c47
     obtain rfl := Option.some.inj H
     try go_wp2
     replace BK375 := As.mk (blk_drew BK375.out)
     replace BK377 := As.mk (blk_drew BK377.out)
     replace HB := As.mk (below_drew1 HB.out)
     have p381 : 0 ≤ (0 : Int) := (by omega)
     have q381 : 0 < (((rd_T88 l0_0 a2).f3).length : Int) := od
     obtain ⟨ad381, e381, hx381_0⟩ := Kd.at_int HR376_3.out 0 p381 q381
     have hw381_0 := hx381_0
     (try rw [show ((0 : Int)).toNat = 0 from rfl] at hw381_0)
     (try rw [show 0 * 1 = 0 from rfl] at hw381_0)
     (try rw [Addr.add_zero'] at hw381_0)
     cases e381
     have qi381 : (0 < ((rd_T88 l0_0 a2).f3).length) = True := eq_true (by omega)
     (try rw [show ((0 : Int)).toNat = 0 from rfl] at hx381_0)
     (try rw [Addr.add_zero'] at hx381_0)
     replace hx381_0 := ce HB.out hx381_0
     replace p381 := eq_true p381
     replace q381 := eq_true q381
     have p383 : 0 ≤ (1 : Int) := (by omega)
     have q383 : 1 < (((rd_T88 l0_0 a2).f3).length : Int) := od
     obtain ⟨ad383, e383, hx383_0⟩ := Kd.at_int HR376_3.out 1 p383 q383
     have hw383_0 := hx383_0
     (try rw [show ((1 : Int)).toNat = 1 from rfl] at hw383_0)
     (try rw [show 1 * 1 = 1 from rfl] at hw383_0)
     (try simp only [Nat.reduceMul, Nat.reduceEqDiff, Go.Addr.add, ↓reduceIte] at hw383_0)
     obtain rfl : ad381 = ad383 := (by injection e383)
     (try simp only [show (1 : Int).toNat = 1 from rfl, Nat.reduceMul, Nat.reduceEqDiff, Go.Addr.add, ↓reduceIte] at hx383_0)
     have qi383 : (1 < ((rd_T88 l0_0 a2).f3).length) = True := eq_true (by omega)
     (try rw [show ((1 : Int)).toNat = 1 from rfl] at hx383_0)
     replace hx383_0 := ce HB.out hx383_0
     replace p383 := eq_true p383
     replace q383 := eq_true q383
     refine start_ (n := 18) (S := fun w' => w'.cell? ⟨gb375, 0, none⟩ = some (.slice (some ad376) l0_0.length c0_0) ∧ w'.cell? ⟨gb375, 1, none⟩ = some (.slice A0_1 l0_1.length c0_1) ∧ w'.cell? ⟨gb377, 0, none⟩ = some (.int .i64 ((rd_T88 l0_0 a2).f0)) ∧ w'.cell? ⟨gb377, 1, none⟩ = some (.int .i64 ((rd_T88 l0_0 a2).f1)) ∧ w'.cell? ⟨gb377, 2, none⟩ = some (.string ((rd_T88 l0_0 a2).f2)) ∧ w'.cell? ⟨gb377, 3, none⟩ = some (.slice (some ad381) ((rd_T88 l0_0 a2).f3).length c376_3) ∧ w'.cell? ad381 = some (.int .i64 (rd ((rd_T88 l0_0 a2).f3) 0)) ∧ w'.cell? ⟨ad381.block, ad381.off + 1, none⟩ = some (.int .i64 (rd ((rd_T88 l0_0 a2).f3) 1))) (ds := []) #[O, O, O, O, O, O, O, O, O, O, O, O, O, O, O, O, O, O] (by kernel_rfl) rfl rfl ⟨(blk_cell BK375.out 0).trans rfl, (blk_cell BK375.out 1).trans rfl, (blk_cell BK377.out 0).trans rfl, (blk_cell BK377.out 1).trans rfl, (blk_cell BK377.out 2).trans rfl, (blk_cell BK377.out 3).trans rfl, (ce HB.out hw381_0 :), (ce HB.out hw383_0 :)⟩ (fun hHeld => ?_); refine with_tabW impl_typeOf.tab27 impl_typeOf.bits27 (fun HT_ HW_ => ?_)
     generalize wc.drew = w48 at BK375 BK377 HB hx381_0 hx383_0 hHeld ⊢
     refine pure_ (i := 1) (N := some 73) (v := ?_) (a' := ?_) #[O, I, O, O, O, O, O, O, O, O, O, O, O, O, O, O, O, O] rfl rfl (any_of HT_.out (by kernel_rfl)) (fun _ _ _ h => h) (Or.inl ⟨by rfl, ?_⟩) ?_ ?_
     rotate_left; · intro w'; go_simp; with_reducible rfl
     rotate_left; · simp only [pk, i64_w, i32_w]; rfl
     refine pure_ (i := 2) (N := some 74) (v := ?_) (a' := ?_) #[O, I, I, O, O, O, O, O, O, O, O, O, O, O, O, O, O, O] rfl rfl (any_of HT_.out (by kernel_rfl)) (fun _ _ _ h => h) (Or.inl ⟨by rfl, ?_⟩) ?_ ?_
     rotate_left; · intro w'; go_simp; with_reducible rfl
     rotate_left; · simp only [pk, i64_w, i32_w]; rfl
     refine take_ (i := 0) (N := some 72) (v := ?_) (a' := ?_) #[I, I, I, O, O, O, O, O, O, O, O, O, O, O, O, O, O, O] rfl rfl (take_ofW HT_.out HW_.out (by kernel_rfl)) (fun _ _ _ h => h) (Or.inl ⟨by rfl, ?_⟩) hHeld ?_ ?_
     rotate_left; · rintro w' ⟨s0, s1, s2, s3, s4, s5, s6, s7⟩; go_simp; with_reducible rfl
     rotate_left; · simp only [pk, i64_w, i32_w]; rfl
     refine take_ (i := 3) (N := some 75) (v := ?_) (a' := ?_) #[I, I, I, I, O, O, O, O, O, O, O, O, O, O, O, O, O, O] rfl rfl (take_ofW HT_.out HW_.out (by kernel_rfl)) (fun _ _ _ h => h) (Or.inl ⟨by rfl, ?_⟩) hHeld ?_ ?_
     rotate_left; · rintro w' ⟨s0, s1, s2, s3, s4, s5, s6, s7⟩; go_simp; with_reducible rfl
     rotate_left; · simp only [pk, i64_w, i32_w]; rfl
     refine pure_ (i := 4) (N := some 76) (v := ?_) (a' := ?_) #[I, I, I, I, I, O, O, O, O, O, O, O, O, O, O, O, O, O] rfl rfl (any_of HT_.out (by kernel_rfl)) (fun _ _ _ h => h) (Or.inl ⟨by rfl, ?_⟩) ?_ ?_
     rotate_left; · intro w'; go_simp; with_reducible rfl
     rotate_left; · simp only [pk, i64_w, i32_w]; rfl
     refine take_ (i := 5) (N := some 77) (v := ?_) (a' := ?_) #[I, I, I, I, I, I, O, O, O, O, O, O, O, O, O, O, O, O] rfl rfl (take_ofW HT_.out HW_.out (by kernel_rfl)) (fun _ _ _ h => h) (Or.inl ⟨by rfl, ?_⟩) hHeld ?_ ?_
     rotate_left; · rintro w' ⟨s0, s1, s2, s3, s4, s5, s6, s7⟩; go_simp; with_reducible rfl
     rotate_left; · simp only [pk, i64_w, i32_w]; rfl
     refine one_ (i := 6) (N := some 78) #[I, I, I, I, I, I, I, O, O, O, O, O, O, O, O, O, O, O] rfl rfl (one_of HT_.out (by kernel_rfl)) (by decide) (fun K hK => ?_)
     refine goes_ Tryd.func76 (by kernel_rfl) rfl #[.agg #[.slice (some ad376) l0_0.length c0_0, .slice A0_1 l0_1.length c0_1], .slice A1 l1.length c1, .int .i64 (rd ((rd_T88 l0_0 a2).f3) 0)] (by rfl) rfl rfl (by (try simp only [lm]); first | done | rfl | (simp only [List.length_drop, List.length_take]; rfl)) ?_
     with_reducible refine (ih kj37 (by have := HJ6.out; have := HJ37.out; omega) _ _ l0_0 _ _ l0_1 _ _ l1 (rd ((rd_T88 l0_0 a2).f3) 0) t382 _ ?side1 ?side2 ?side3 ?side4 ?side5 ?side6 A43.out).mono ?_
     (case side1 => exact Kd.C_below HR0_0.out (be w))
     (case side2 => exact HC0_0.out)
     (case side3 => exact Kd.C_below HR0_1.out (be w))
     (case side4 => exact HC0_1.out)
     (case side5 => exact Kd.C_below HR1.out (be w))
     (case side6 => exact HC1.out)
     rintro e w49 ⟨rfl, hb⟩
     refine ⟨_, rfl, ?_⟩
     replace BK375 := As.mk (blk_below (bx BK375.out) hb)
     replace BK377 := As.mk (blk_below (bx BK377.out) hb)
     replace HB := As.mk (below_step (be w) hb)
     (try clear hb)
     (try clear hb2)
     (try clear hk)
     (try clear hi)
     refine hK.out _ _ ⟨(blk_cell BK375.out 0).trans rfl, (blk_cell BK375.out 1).trans rfl, (blk_cell BK377.out 0).trans rfl, (blk_cell BK377.out 1).trans rfl, (blk_cell BK377.out 2).trans rfl, (blk_cell BK377.out 3).trans rfl, (ce HB.out hw381_0 :), (ce HB.out hw383_0 :)⟩ (fun hHeld => ?_)
     clear hK K
     refine norm_ (a' := ?_) ?_ ?_
     rotate_left
     ·
      show Act.put _ (some 78) _ = _
      simp only [pk, i64_w, i32_w]
      rfl
     refine pure_ (i := 7) (N := some 79) (v := ?_) (a' := ?_) #[I, I, I, I, I, I, I, I, O, O, O, O, O, O, O, O, O, O] rfl rfl (any_of HT_.out (by kernel_rfl)) (fun _ _ _ h => h) (Or.inl ⟨by rfl, ?_⟩) ?_ ?_
     rotate_left; · intro w'; go_simp; with_reducible rfl
     rotate_left; · simp only [pk, i64_w, i32_w]; rfl
     refine pure_ (i := 8) (N := some 80) (v := ?_) (a' := ?_) #[I, I, I, I, I, I, I, I, I, O, O, O, O, O, O, O, O, O] rfl rfl (any_of HT_.out (by kernel_rfl)) (fun _ _ _ h => h) (Or.inl ⟨by rfl, ?_⟩) ?_ ?_
     rotate_left; · intro w'; go_simp; with_reducible rfl
     rotate_left; · simp only [pk, i64_w, i32_w]; rfl
     refine pure_ (i := 10) (N := some 82) (v := ?_) (a' := ?_) #[I, I, I, I, I, I, I, I, I, O, I, O, O, O, O, O, O, O] rfl rfl (any_of HT_.out (by kernel_rfl)) (fun _ _ _ h => h) (Or.inl ⟨by rfl, ?_⟩) ?_ ?_
     rotate_left; · intro w'; go_simp; with_reducible rfl
     rotate_left; · simp only [pk, i64_w, i32_w]; rfl
     refine pure_ (i := 11) (N := some 83) (v := ?_) (a' := ?_) #[I, I, I, I, I, I, I, I, I, O, I, I, O, O, O, O, O, O] rfl rfl (any_of HT_.out (by kernel_rfl)) (fun _ _ _ h => h) (Or.inl ⟨by rfl, ?_⟩) ?_ ?_
     rotate_left; · intro w'; go_simp; with_reducible rfl
     rotate_left; · simp only [pk, i64_w, i32_w]; rfl
     refine take_ (i := 9) (N := some 81) (v := ?_) (a' := ?_) #[I, I, I, I, I, I, I, I, I, I, I, I, O, O, O, O, O, O] rfl rfl (take_ofW HT_.out HW_.out (by kernel_rfl)) (fun _ _ _ h => h) (Or.inl ⟨by rfl, ?_⟩) hHeld ?_ ?_
     rotate_left; · rintro w' ⟨s0, s1, s2, s3, s4, s5, s6, s7⟩; go_simp; with_reducible rfl
     rotate_left; · simp only [pk, i64_w, i32_w]; rfl
     refine take_ (i := 12) (N := some 84) (v := ?_) (a' := ?_) #[I, I, I, I, I, I, I, I, I, I, I, I, I, O, O, O, O, O] rfl rfl (take_ofW HT_.out HW_.out (by kernel_rfl)) (fun _ _ _ h => h) (Or.inl ⟨by rfl, ?_⟩) hHeld ?_ ?_
     rotate_left; · rintro w' ⟨s0, s1, s2, s3, s4, s5, s6, s7⟩; go_simp; with_reducible rfl
     rotate_left; · simp only [pk, i64_w, i32_w]; rfl
     refine pure_ (i := 13) (N := some 85) (v := ?_) (a' := ?_) #[I, I, I, I, I, I, I, I, I, I, I, I, I, I, O, O, O, O] rfl rfl (any_of HT_.out (by kernel_rfl)) (fun _ _ _ h => h) (Or.inl ⟨by rfl, ?_⟩) ?_ ?_
     rotate_left; · intro w'; go_simp; with_reducible rfl
     rotate_left; · simp only [pk, i64_w, i32_w]; rfl
     refine take_ (i := 14) (N := some 86) (v := ?_) (a' := ?_) #[I, I, I, I, I, I, I, I, I, I, I, I, I, I, I, O, O, O] rfl rfl (take_ofW HT_.out HW_.out (by kernel_rfl)) (fun _ _ _ h => h) (Or.inl ⟨by rfl, ?_⟩) hHeld ?_ ?_
     rotate_left; · rintro w' ⟨s0, s1, s2, s3, s4, s5, s6, s7⟩; go_simp; with_reducible rfl
     rotate_left; · simp only [pk, i64_w, i32_w]; rfl
     refine one_ (i := 15) (N := some 87) #[I, I, I, I, I, I, I, I, I, I, I, I, I, I, I, I, O, O] rfl rfl (one_of HT_.out (by kernel_rfl)) (by decide) (fun K hK => ?_)
     refine goes_ Tryd.func76 (by kernel_rfl) rfl #[.agg #[.slice (some ad376) l0_0.length c0_0, .slice A0_1 l0_1.length c0_1], .slice A1 l1.length c1, .int .i64 (rd ((rd_T88 l0_0 a2).f3) 1)] (by rfl) rfl rfl (by (try simp only [lm]); first | done | rfl | (simp only [List.length_drop, List.length_take]; rfl)) ?_
     with_reducible refine (ih kj37 (by have := HJ6.out; have := HJ37.out; omega) _ _ l0_0 _ _ l0_1 _ _ l1 (rd ((rd_T88 l0_0 a2).f3) 1) t384 _ ?side1 ?side2 ?side3 ?side4 ?side5 ?side6 A46.out).mono ?_
     (case side1 => exact Kd.C_below HR0_0.out (be w))
     (case side2 => exact HC0_0.out)
     (case side3 => exact Kd.C_below HR0_1.out (be w))
     (case side4 => exact HC0_1.out)
     (case side5 => exact Kd.C_below HR1.out (be w))
     (case side6 => exact HC1.out)
     rintro e w50 ⟨rfl, hb⟩
     refine ⟨_, rfl, ?_⟩
     replace BK375 := As.mk (blk_below (bx BK375.out) hb)
     replace BK377 := As.mk (blk_below (bx BK377.out) hb)
     replace HB := As.mk (below_step (be w) hb)
     (try clear hb)
     (try clear hb2)
     (try clear hk)
     (try clear hi)
     refine hK.out _ _ ⟨(blk_cell BK375.out 0).trans rfl, (blk_cell BK375.out 1).trans rfl, (blk_cell BK377.out 0).trans rfl, (blk_cell BK377.out 1).trans rfl, (blk_cell BK377.out 2).trans rfl, (blk_cell BK377.out 3).trans rfl, (ce HB.out hw381_0 :), (ce HB.out hw383_0 :)⟩ (fun hHeld => ?_)
     clear hK K
     refine norm_ (a' := ?_) ?_ ?_
     rotate_left
     ·
      show Act.put _ (some 87) _ = _
      simp only [pk, i64_w, i32_w]
      rfl
     refine pure_ (i := 16) (N := some 88) (v := ?_) (a' := ?_) #[I, I, I, I, I, I, I, I, I, I, I, I, I, I, I, I, I, O] rfl rfl (any_of HT_.out (by kernel_rfl)) (fun _ _ _ h => h) (Or.inl ⟨by rfl, ?_⟩) ?_ ?_
     rotate_left; · intro w'; go_simp; with_reducible rfl
     rotate_left; · simp only [pk, i64_w, i32_w]; rfl
     refine pure_ (i := 17) (N := some 89) (v := ?_) (a' := ?_) #[I, I, I, I, I, I, I, I, I, I, I, I, I, I, I, I, I, I] rfl rfl (any_of HT_.out (by kernel_rfl)) (fun _ _ _ h => h) (Or.inl ⟨by rfl, ?_⟩) ?_ ?_
     rotate_left; · intro w'; go_simp; with_reducible rfl
     rotate_left; · simp only [pk, i64_w, i32_w]; rfl
     refine done_ (done_of HT_.out (by kernel_rfl)) ?_
     try go_wp2
     go_ret
     exact (ew (be w))
theorem impl_typeOf.allO (k : Nat) : impl_callRight.C k ∧ impl_typeOf.C k := by
  induction k using Nat.strongRecOn with
  | _ k ih => exact ⟨impl_callRight.callsO k (fun m_ h_ => (ih m_ h_).1) (fun m_ h_ => (ih m_ h_).2), impl_typeOf.callsO k (fun m_ h_ => (ih m_ h_).1) (fun m_ h_ => (ih m_ h_).2)⟩
theorem impl_callRight.calls (k : Nat) : ∀ (A0_0 : Option Addr) (c0_0 : Nat) (l0_0 : List (S88)) (A0_1 : Option Addr) (c0_1 : Nat) (l0_1 : List (S125)) (A1 : Option Addr) (c1 : Nat) (l1 : List (S100)) (a2 : Int) (r : Bool) (w : World) (hr0_0 : Kd.C k88 w A0_0 l0_0.length l0_0) (hc0_0 : l0_0.length ≤ c0_0) (hr0_1 : Kd.C k125 w A0_1 l0_1.length l0_1) (hc0_1 : l0_1.length ≤ c0_1) (hr1 : Kd.C k100 w A1 l1.length l1) (hc1 : l1.length ≤ c1) (h : impl_callRight.f k l0_0 l0_1 l1 a2 = some r),
  Calls Tryd.prog 102 #[.agg #[.slice A0_0 l0_0.length c0_0, .slice A0_1 l0_1.length c0_1], .slice A1 l1.length c1, .int .i64 a2] w fun e w' => e = .returned (.bool r) ∧ Below w.heap.size w w' := (impl_typeOf.allO k).1
theorem impl_typeOf.calls (k : Nat) : ∀ (A0_0 : Option Addr) (c0_0 : Nat) (l0_0 : List (S88)) (A0_1 : Option Addr) (c0_1 : Nat) (l0_1 : List (S125)) (A1 : Option Addr) (c1 : Nat) (l1 : List (S100)) (a2 : Int) (r : Int) (w : World) (hr0_0 : Kd.C k88 w A0_0 l0_0.length l0_0) (hc0_0 : l0_0.length ≤ c0_0) (hr0_1 : Kd.C k125 w A0_1 l0_1.length l0_1) (hc0_1 : l0_1.length ≤ c0_1) (hr1 : Kd.C k100 w A1 l1.length l1) (hc1 : l1.length ≤ c1) (h : impl_typeOf.f k l0_0 l0_1 l1 a2 = some r),
  Calls Tryd.prog 76 #[.agg #[.slice A0_0 l0_0.length c0_0, .slice A0_1 l0_1.length c0_1], .slice A1 l1.length c1, .int .i64 a2] w fun e w' => e = .returned (.int .i64 r) ∧ Below w.heap.size w w' := (impl_typeOf.allO k).2

end Go.Proofs.YtcoapbnbakmkoaaDoor.PFnExactTypeOf
