/- Written by a program of this session (a turned copy of the kit's print): a contract for each Go function. No condition beside those in each statement. -/
import Derived.Test.YtcoapbnbakmkoaaDoorPFnExactTypeOfx0
import Derived.Test.YtcoapbnbakmkoaaDoorPFnExactTypeOfx7
namespace Go.Proofs.YtcoapbnbakmkoaaDoor.PFnExactTypeOf
open Go.RowKit Go.Proofs.YtcoapbnbakmkoaaDoor.Given Go.Proofs.YtcoapbnbakmkoaaDoorW.PrintWords Go.Proofs.YtcoapbnbakmkoaaDoorW.PrintLast Go.Proofs.YtcoapbnbakmkoaaDoorW.PrintMore
attribute [local go_sem] max2_int min2_int max_two min_two max_three min_three max_four min_four   -- for this text's walks alone
set_option linter.unusedVariables false
set_option linter.unusedSimpArgs false

/-! ### spec_l08Type: function 74 -/
/-! ### spec_l08Sig: function 100 -/
/-! ### spec_l08Two: function 99 -/
mutual
def spec_l08Two.f : Nat → List (S88) → List (S125) → List (S100) → Int → Option (Bool)
  | 0, _, _, _, _ => none
  | k + 1, l0_0, l0_1, l1, a2 => if 0 ≤ a2 then (if a2 < (l0_0.length : Int) then (if 0 < (((rd_T88 l0_0 a2).f3).length : Int) then ((spec_l08Type.f k l0_0 l0_1 l1 (rd ((rd_T88 l0_0 a2).f3) 0)).bind fun t267 => (if t267 = 1 then (if 1 < (((rd_T88 l0_0 a2).f3).length : Int) then ((spec_l08Type.f k l0_0 l0_1 l1 (rd ((rd_T88 l0_0 a2).f3) 1)).bind fun t269 => (some (t269 == 1))) else (none)) else (some false))) else (none)) else (none)) else (none)
def spec_l08Sig.j0 : Nat → List (S100) → Int → Bool → List (S88) → List (S125) → Int → Int → ByteArray → List Int → Option (ByteArray × (List (S147)) × Int × Int × Int × Bool)
  | 0, _, _, _, _, _, _, _, _, _ => none
  | k + 1, x1, x9, x34, x271000, x271001, x274000, x274001, x274002, x274003 => if x34 = true then (some ((⟨#[]⟩ : ByteArray), ([] : List (S147)), 0, 0, 0, false)) else (spec_l08Sig.l0 k x1 x9 0 x271000 x271001 x274000 x274001 x274002 x274003)
def spec_l08Sig.l0 : Nat → List (S100) → Int → Int → List (S88) → List (S125) → Int → Int → ByteArray → List Int → Option (ByteArray × (List (S147)) × Int × Int × Int × Bool)
  | 0, _, _, _, _, _, _, _, _, _ => none
  | k + 1, x1, x9, x10, x271000, x271001, x274000, x274001, x274002, x274003 => if x10 < (x274003.length : Int) then (if 0 ≤ x10 then ((spec_l08Type.f k x271000 x271001 x1 (rd x274003 x10)).bind fun t277 => (if 0 ≤ x9 then (if x9 < (x271001.length : Int) then (if x10 < (((rd_T125 x271001 x9).f1).length : Int) then (if t277 = ((rd_T147 ((rd_T125 x271001 x9).f1) x10).f1) then (spec_l08Sig.l0 k x1 x9 (wrap64 (x10 + 1)) x271000 x271001 x274000 x274001 x274002 x274003) else (some ((⟨#[]⟩ : ByteArray), ([] : List (S147)), 0, 0, 0, false))) else (none)) else (none)) else (none))) else (none)) else (if 0 ≤ x9 then (if x9 < (x271001.length : Int) then (some ((rd_T125 x271001 x9).f0, (rd_T125 x271001 x9).f1, (rd_T125 x271001 x9).f2, (rd_T125 x271001 x9).f3, (rd_T125 x271001 x9).f4, true)) else (none)) else (none))
def spec_l08Sig.f : Nat → List (S88) → List (S125) → List (S100) → Int → Option (ByteArray × (List (S147)) × Int × Int × Int × Bool)
  | 0, _, _, _, _ => none
  | k + 1, l0_0, l0_1, l1, a2 => if 0 ≤ a2 then (if a2 < (l0_0.length : Int) then ((spec_FnAt.f k l0_0 l0_1 ((rd_T88 l0_0 a2).f2)).bind fun t274 => (if t274 < 0 then (spec_l08Sig.j0 k l1 t274 true l0_0 l0_1 ((rd_T88 l0_0 a2).f0) ((rd_T88 l0_0 a2).f1) ((rd_T88 l0_0 a2).f2) ((rd_T88 l0_0 a2).f3)) else (if 0 ≤ t274 then (if t274 < (l0_1.length : Int) then (spec_l08Sig.j0 k l1 t274 ((((rd_T125 l0_1 t274).f1).length : Int) != (((rd_T88 l0_0 a2).f3).length : Int)) l0_0 l0_1 ((rd_T88 l0_0 a2).f0) ((rd_T88 l0_0 a2).f1) ((rd_T88 l0_0 a2).f2) ((rd_T88 l0_0 a2).f3)) else (none)) else (none)))) else (none)) else (none)
def spec_l08Type.j0 : Nat → List (S100) → Int → Int → Bool → List (S88) → List (S125) → Int → Int → ByteArray → List Int → Option (Int)
  | 0, _, _, _, _, _, _, _, _, _, _ => none
  | k + 1, x1, x2, x8, x9, x282000, x282001, x284000, x284001, x284002, x284003 => if x284000 = 1 then (spec_l08Type.j1 k x1 x2 x8 x9 x284000 (x284000 == 1) x282000 x282001 x284000 x284001 x284002 x284003) else (spec_l08Type.j1 k x1 x2 x8 x9 x284000 (x284000 == 7) x282000 x282001 x284000 x284001 x284002 x284003)
def spec_l08Type.j1 : Nat → List (S100) → Int → Int → Bool → Int → Bool → List (S88) → List (S125) → Int → Int → ByteArray → List Int → Option (Int)
  | 0, _, _, _, _, _, _, _, _, _, _, _, _ => none
  | k + 1, x1, x2, x8, x9, x32, x33, x282000, x282001, x284000, x284001, x284002, x284003 => if x33 = true then (some 1) else (if x32 = 2 then (some x8) else (if x32 = 3 then (if x9 = true then (some 1) else (some 0)) else (if x32 = 4 then (if x9 = true then (some 2) else (some 0)) else (if x32 = 5 then (if x8 = 2 then (some 3) else (some 0)) else (if x32 = 6 then (if x8 = 2 then (some 4) else (some 0)) else (if x32 = 8 then (if 0 < (x284003.length : Int) then ((spec_l08Type.f k x282000 x282001 x1 (rd x284003 0)).bind fun t286 => (if t286 = 1 then (some 2) else (some 0))) else (none)) else (if x32 = 9 then (spec_l08Type.j2 k x1 x2 x32 (x32 == 9) x282000 x282001) else (if x32 = 10 then (spec_l08Type.j2 k x1 x2 x32 (x32 == 10) x282000 x282001) else (spec_l08Type.j2 k x1 x2 x32 (x32 == 11) x282000 x282001)))))))))
def spec_l08Type.j2 : Nat → List (S100) → Int → Int → Bool → List (S88) → List (S125) → Option (Int)
  | 0, _, _, _, _, _, _ => none
  | k + 1, x1, x2, x32, x63, x282000, x282001 => if x63 = true then ((spec_l08Two.f k x282000 x282001 x1 x2).bind fun t287 => (if t287 = true then (some 1) else (some 0))) else (if x32 = 12 then ((spec_l08Sig.f k x282000 x282001 x1 x2).bind fun bt288 => (if bt288.2.2.2.2.2 = true then (some bt288.2.2.1) else (some 0))) else (some 0))
def spec_l08Type.f : Nat → List (S88) → List (S125) → List (S100) → Int → Option (Int)
  | 0, _, _, _, _ => none
  | k + 1, l0_0, l0_1, l1, a2 => if 0 ≤ a2 then (if a2 < (l0_0.length : Int) then ((spec_l08Var.f k l1 ((rd_T88 l0_0 a2).f2)).bind fun t284 => (if t284 = 2 then (spec_l08Type.j0 k l1 a2 t284 true l0_0 l0_1 ((rd_T88 l0_0 a2).f0) ((rd_T88 l0_0 a2).f1) ((rd_T88 l0_0 a2).f2) ((rd_T88 l0_0 a2).f3)) else (if t284 = 3 then (spec_l08Type.j0 k l1 a2 t284 true l0_0 l0_1 ((rd_T88 l0_0 a2).f0) ((rd_T88 l0_0 a2).f1) ((rd_T88 l0_0 a2).f2) ((rd_T88 l0_0 a2).f3)) else (spec_l08Type.j0 k l1 a2 t284 (t284 == 4) l0_0 l0_1 ((rd_T88 l0_0 a2).f0) ((rd_T88 l0_0 a2).f1) ((rd_T88 l0_0 a2).f2) ((rd_T88 l0_0 a2).f3))))) else (none)) else (none)
end
theorem spec_l08Type.mono_l : ∀ k, (∀ y0 y1 y2 y3, LeO (spec_l08Two.f k y0 y1 y2 y3) (spec_l08Two.f (k + 1) y0 y1 y2 y3)) ∧ (∀ y0 y1 y2 y3, LeO (spec_l08Sig.f k y0 y1 y2 y3) (spec_l08Sig.f (k + 1) y0 y1 y2 y3)) ∧ (∀ y0 y1 y2 y3 y4 y5 y6 y7 y8, LeO (spec_l08Sig.j0 k y0 y1 y2 y3 y4 y5 y6 y7 y8) (spec_l08Sig.j0 (k + 1) y0 y1 y2 y3 y4 y5 y6 y7 y8)) ∧ (∀ y0 y1 y2 y3 y4 y5 y6 y7 y8, LeO (spec_l08Sig.l0 k y0 y1 y2 y3 y4 y5 y6 y7 y8) (spec_l08Sig.l0 (k + 1) y0 y1 y2 y3 y4 y5 y6 y7 y8)) ∧ (∀ y0 y1 y2 y3, LeO (spec_l08Type.f k y0 y1 y2 y3) (spec_l08Type.f (k + 1) y0 y1 y2 y3)) ∧ (∀ y0 y1 y2 y3 y4 y5 y6 y7 y8 y9, LeO (spec_l08Type.j0 k y0 y1 y2 y3 y4 y5 y6 y7 y8 y9) (spec_l08Type.j0 (k + 1) y0 y1 y2 y3 y4 y5 y6 y7 y8 y9)) ∧ (∀ y0 y1 y2 y3 y4 y5 y6 y7 y8 y9 y10 y11, LeO (spec_l08Type.j1 k y0 y1 y2 y3 y4 y5 y6 y7 y8 y9 y10 y11) (spec_l08Type.j1 (k + 1) y0 y1 y2 y3 y4 y5 y6 y7 y8 y9 y10 y11)) ∧ (∀ y0 y1 y2 y3 y4 y5, LeO (spec_l08Type.j2 k y0 y1 y2 y3 y4 y5) (spec_l08Type.j2 (k + 1) y0 y1 y2 y3 y4 y5))
  | 0 => ⟨fun _ _ _ _ r h => by simp [spec_l08Two.f] at h, fun _ _ _ _ r h => by simp [spec_l08Sig.f] at h, fun _ _ _ _ _ _ _ _ _ r h => by simp [spec_l08Sig.j0] at h, fun _ _ _ _ _ _ _ _ _ r h => by simp [spec_l08Sig.l0] at h, fun _ _ _ _ r h => by simp [spec_l08Type.f] at h, fun _ _ _ _ _ _ _ _ _ _ r h => by simp [spec_l08Type.j0] at h, fun _ _ _ _ _ _ _ _ _ _ _ _ r h => by simp [spec_l08Type.j1] at h, fun _ _ _ _ _ _ r h => by simp [spec_l08Type.j2] at h⟩
  | k + 1 => by
    obtain ⟨ih0, ih1, ih2, ih3, ih4, ih5, ih6, ih7⟩ := spec_l08Type.mono_l k
    refine ⟨?_, ?_, ?_, ?_, ?_, ?_, ?_, ?_⟩
    · intro y0 y1 y2 y3
      unfold spec_l08Two.f
      repeat' first
      | (with_reducible exact ih0 _ _ _ _)
      | (with_reducible exact ih1 _ _ _ _)
      | (with_reducible exact ih2 _ _ _ _ _ _ _ _ _)
      | (with_reducible exact ih3 _ _ _ _ _ _ _ _ _)
      | (with_reducible exact ih4 _ _ _ _)
      | (with_reducible exact ih5 _ _ _ _ _ _ _ _ _ _)
      | (with_reducible exact ih6 _ _ _ _ _ _ _ _ _ _ _ _)
      | (with_reducible exact ih7 _ _ _ _ _ _)
      | (with_reducible exact spec_FnAt.mono _ _ _ _)
      | (with_reducible exact spec_l08Var.mono _ _ _)
      | (with_reducible exact LeO.refl _)
      | (with_reducible exact LeO.none _)
      | (with_reducible refine LeO.ite ?_ ?_)
      | (with_reducible refine LeO.bind ?_ (fun _ => ?_))
      | exact ih0 _ _ _ _
      | exact ih1 _ _ _ _
      | exact ih2 _ _ _ _ _ _ _ _ _
      | exact ih3 _ _ _ _ _ _ _ _ _
      | exact ih4 _ _ _ _
      | exact ih5 _ _ _ _ _ _ _ _ _ _
      | exact ih6 _ _ _ _ _ _ _ _ _ _ _ _
      | exact ih7 _ _ _ _ _ _
      | exact spec_FnAt.mono _ _ _ _
      | exact spec_l08Var.mono _ _ _
      | exact LeO.none _
      | refine LeO.ite ?_ ?_
      | refine LeO.bind ?_ (fun _ => ?_)
    · intro y0 y1 y2 y3
      unfold spec_l08Sig.f
      repeat' first
      | (with_reducible exact ih0 _ _ _ _)
      | (with_reducible exact ih1 _ _ _ _)
      | (with_reducible exact ih2 _ _ _ _ _ _ _ _ _)
      | (with_reducible exact ih3 _ _ _ _ _ _ _ _ _)
      | (with_reducible exact ih4 _ _ _ _)
      | (with_reducible exact ih5 _ _ _ _ _ _ _ _ _ _)
      | (with_reducible exact ih6 _ _ _ _ _ _ _ _ _ _ _ _)
      | (with_reducible exact ih7 _ _ _ _ _ _)
      | (with_reducible exact spec_FnAt.mono _ _ _ _)
      | (with_reducible exact spec_l08Var.mono _ _ _)
      | (with_reducible exact LeO.refl _)
      | (with_reducible exact LeO.none _)
      | (with_reducible refine LeO.ite ?_ ?_)
      | (with_reducible refine LeO.bind ?_ (fun _ => ?_))
      | exact ih0 _ _ _ _
      | exact ih1 _ _ _ _
      | exact ih2 _ _ _ _ _ _ _ _ _
      | exact ih3 _ _ _ _ _ _ _ _ _
      | exact ih4 _ _ _ _
      | exact ih5 _ _ _ _ _ _ _ _ _ _
      | exact ih6 _ _ _ _ _ _ _ _ _ _ _ _
      | exact ih7 _ _ _ _ _ _
      | exact spec_FnAt.mono _ _ _ _
      | exact spec_l08Var.mono _ _ _
      | exact LeO.none _
      | refine LeO.ite ?_ ?_
      | refine LeO.bind ?_ (fun _ => ?_)
    · intro y0 y1 y2 y3 y4 y5 y6 y7 y8
      unfold spec_l08Sig.j0
      repeat' first
      | (with_reducible exact ih0 _ _ _ _)
      | (with_reducible exact ih1 _ _ _ _)
      | (with_reducible exact ih2 _ _ _ _ _ _ _ _ _)
      | (with_reducible exact ih3 _ _ _ _ _ _ _ _ _)
      | (with_reducible exact ih4 _ _ _ _)
      | (with_reducible exact ih5 _ _ _ _ _ _ _ _ _ _)
      | (with_reducible exact ih6 _ _ _ _ _ _ _ _ _ _ _ _)
      | (with_reducible exact ih7 _ _ _ _ _ _)
      | (with_reducible exact spec_FnAt.mono _ _ _ _)
      | (with_reducible exact spec_l08Var.mono _ _ _)
      | (with_reducible exact LeO.refl _)
      | (with_reducible exact LeO.none _)
      | (with_reducible refine LeO.ite ?_ ?_)
      | (with_reducible refine LeO.bind ?_ (fun _ => ?_))
      | exact ih0 _ _ _ _
      | exact ih1 _ _ _ _
      | exact ih2 _ _ _ _ _ _ _ _ _
      | exact ih3 _ _ _ _ _ _ _ _ _
      | exact ih4 _ _ _ _
      | exact ih5 _ _ _ _ _ _ _ _ _ _
      | exact ih6 _ _ _ _ _ _ _ _ _ _ _ _
      | exact ih7 _ _ _ _ _ _
      | exact spec_FnAt.mono _ _ _ _
      | exact spec_l08Var.mono _ _ _
      | exact LeO.none _
      | refine LeO.ite ?_ ?_
      | refine LeO.bind ?_ (fun _ => ?_)
    · intro y0 y1 y2 y3 y4 y5 y6 y7 y8
      unfold spec_l08Sig.l0
      repeat' first
      | (with_reducible exact ih0 _ _ _ _)
      | (with_reducible exact ih1 _ _ _ _)
      | (with_reducible exact ih2 _ _ _ _ _ _ _ _ _)
      | (with_reducible exact ih3 _ _ _ _ _ _ _ _ _)
      | (with_reducible exact ih4 _ _ _ _)
      | (with_reducible exact ih5 _ _ _ _ _ _ _ _ _ _)
      | (with_reducible exact ih6 _ _ _ _ _ _ _ _ _ _ _ _)
      | (with_reducible exact ih7 _ _ _ _ _ _)
      | (with_reducible exact spec_FnAt.mono _ _ _ _)
      | (with_reducible exact spec_l08Var.mono _ _ _)
      | (with_reducible exact LeO.refl _)
      | (with_reducible exact LeO.none _)
      | (with_reducible refine LeO.ite ?_ ?_)
      | (with_reducible refine LeO.bind ?_ (fun _ => ?_))
      | exact ih0 _ _ _ _
      | exact ih1 _ _ _ _
      | exact ih2 _ _ _ _ _ _ _ _ _
      | exact ih3 _ _ _ _ _ _ _ _ _
      | exact ih4 _ _ _ _
      | exact ih5 _ _ _ _ _ _ _ _ _ _
      | exact ih6 _ _ _ _ _ _ _ _ _ _ _ _
      | exact ih7 _ _ _ _ _ _
      | exact spec_FnAt.mono _ _ _ _
      | exact spec_l08Var.mono _ _ _
      | exact LeO.none _
      | refine LeO.ite ?_ ?_
      | refine LeO.bind ?_ (fun _ => ?_)
    · intro y0 y1 y2 y3
      unfold spec_l08Type.f
      repeat' first
      | (with_reducible exact ih0 _ _ _ _)
      | (with_reducible exact ih1 _ _ _ _)
      | (with_reducible exact ih2 _ _ _ _ _ _ _ _ _)
      | (with_reducible exact ih3 _ _ _ _ _ _ _ _ _)
      | (with_reducible exact ih4 _ _ _ _)
      | (with_reducible exact ih5 _ _ _ _ _ _ _ _ _ _)
      | (with_reducible exact ih6 _ _ _ _ _ _ _ _ _ _ _ _)
      | (with_reducible exact ih7 _ _ _ _ _ _)
      | (with_reducible exact spec_FnAt.mono _ _ _ _)
      | (with_reducible exact spec_l08Var.mono _ _ _)
      | (with_reducible exact LeO.refl _)
      | (with_reducible exact LeO.none _)
      | (with_reducible refine LeO.ite ?_ ?_)
      | (with_reducible refine LeO.bind ?_ (fun _ => ?_))
      | exact ih0 _ _ _ _
      | exact ih1 _ _ _ _
      | exact ih2 _ _ _ _ _ _ _ _ _
      | exact ih3 _ _ _ _ _ _ _ _ _
      | exact ih4 _ _ _ _
      | exact ih5 _ _ _ _ _ _ _ _ _ _
      | exact ih6 _ _ _ _ _ _ _ _ _ _ _ _
      | exact ih7 _ _ _ _ _ _
      | exact spec_FnAt.mono _ _ _ _
      | exact spec_l08Var.mono _ _ _
      | exact LeO.none _
      | refine LeO.ite ?_ ?_
      | refine LeO.bind ?_ (fun _ => ?_)
    · intro y0 y1 y2 y3 y4 y5 y6 y7 y8 y9
      unfold spec_l08Type.j0
      repeat' first
      | (with_reducible exact ih0 _ _ _ _)
      | (with_reducible exact ih1 _ _ _ _)
      | (with_reducible exact ih2 _ _ _ _ _ _ _ _ _)
      | (with_reducible exact ih3 _ _ _ _ _ _ _ _ _)
      | (with_reducible exact ih4 _ _ _ _)
      | (with_reducible exact ih5 _ _ _ _ _ _ _ _ _ _)
      | (with_reducible exact ih6 _ _ _ _ _ _ _ _ _ _ _ _)
      | (with_reducible exact ih7 _ _ _ _ _ _)
      | (with_reducible exact spec_FnAt.mono _ _ _ _)
      | (with_reducible exact spec_l08Var.mono _ _ _)
      | (with_reducible exact LeO.refl _)
      | (with_reducible exact LeO.none _)
      | (with_reducible refine LeO.ite ?_ ?_)
      | (with_reducible refine LeO.bind ?_ (fun _ => ?_))
      | exact ih0 _ _ _ _
      | exact ih1 _ _ _ _
      | exact ih2 _ _ _ _ _ _ _ _ _
      | exact ih3 _ _ _ _ _ _ _ _ _
      | exact ih4 _ _ _ _
      | exact ih5 _ _ _ _ _ _ _ _ _ _
      | exact ih6 _ _ _ _ _ _ _ _ _ _ _ _
      | exact ih7 _ _ _ _ _ _
      | exact spec_FnAt.mono _ _ _ _
      | exact spec_l08Var.mono _ _ _
      | exact LeO.none _
      | refine LeO.ite ?_ ?_
      | refine LeO.bind ?_ (fun _ => ?_)
    · intro y0 y1 y2 y3 y4 y5 y6 y7 y8 y9 y10 y11
      unfold spec_l08Type.j1
      repeat' first
      | (with_reducible exact ih0 _ _ _ _)
      | (with_reducible exact ih1 _ _ _ _)
      | (with_reducible exact ih2 _ _ _ _ _ _ _ _ _)
      | (with_reducible exact ih3 _ _ _ _ _ _ _ _ _)
      | (with_reducible exact ih4 _ _ _ _)
      | (with_reducible exact ih5 _ _ _ _ _ _ _ _ _ _)
      | (with_reducible exact ih6 _ _ _ _ _ _ _ _ _ _ _ _)
      | (with_reducible exact ih7 _ _ _ _ _ _)
      | (with_reducible exact spec_FnAt.mono _ _ _ _)
      | (with_reducible exact spec_l08Var.mono _ _ _)
      | (with_reducible exact LeO.refl _)
      | (with_reducible exact LeO.none _)
      | (with_reducible refine LeO.ite ?_ ?_)
      | (with_reducible refine LeO.bind ?_ (fun _ => ?_))
      | exact ih0 _ _ _ _
      | exact ih1 _ _ _ _
      | exact ih2 _ _ _ _ _ _ _ _ _
      | exact ih3 _ _ _ _ _ _ _ _ _
      | exact ih4 _ _ _ _
      | exact ih5 _ _ _ _ _ _ _ _ _ _
      | exact ih6 _ _ _ _ _ _ _ _ _ _ _ _
      | exact ih7 _ _ _ _ _ _
      | exact spec_FnAt.mono _ _ _ _
      | exact spec_l08Var.mono _ _ _
      | exact LeO.none _
      | refine LeO.ite ?_ ?_
      | refine LeO.bind ?_ (fun _ => ?_)
    · intro y0 y1 y2 y3 y4 y5
      unfold spec_l08Type.j2
      repeat' first
      | (with_reducible exact ih0 _ _ _ _)
      | (with_reducible exact ih1 _ _ _ _)
      | (with_reducible exact ih2 _ _ _ _ _ _ _ _ _)
      | (with_reducible exact ih3 _ _ _ _ _ _ _ _ _)
      | (with_reducible exact ih4 _ _ _ _)
      | (with_reducible exact ih5 _ _ _ _ _ _ _ _ _ _)
      | (with_reducible exact ih6 _ _ _ _ _ _ _ _ _ _ _ _)
      | (with_reducible exact ih7 _ _ _ _ _ _)
      | (with_reducible exact spec_FnAt.mono _ _ _ _)
      | (with_reducible exact spec_l08Var.mono _ _ _)
      | (with_reducible exact LeO.refl _)
      | (with_reducible exact LeO.none _)
      | (with_reducible refine LeO.ite ?_ ?_)
      | (with_reducible refine LeO.bind ?_ (fun _ => ?_))
      | exact ih0 _ _ _ _
      | exact ih1 _ _ _ _
      | exact ih2 _ _ _ _ _ _ _ _ _
      | exact ih3 _ _ _ _ _ _ _ _ _
      | exact ih4 _ _ _ _
      | exact ih5 _ _ _ _ _ _ _ _ _ _
      | exact ih6 _ _ _ _ _ _ _ _ _ _ _ _
      | exact ih7 _ _ _ _ _ _
      | exact spec_FnAt.mono _ _ _ _
      | exact spec_l08Var.mono _ _ _
      | exact LeO.none _
      | refine LeO.ite ?_ ?_
      | refine LeO.bind ?_ (fun _ => ?_)
theorem spec_l08Two.mono : ∀ a0 a1 a2 a3 k, LeO (spec_l08Two.f k a0 a1 a2 a3) (spec_l08Two.f (k + 1) a0 a1 a2 a3) := by
  intro a0 a1 a2 a3 k
  obtain ⟨ih0, ih1, ih2, ih3, ih4, ih5, ih6, ih7⟩ := spec_l08Type.mono_l k
  exact ih0 a0 a1 a2 a3
theorem spec_l08Sig.mono : ∀ a0 a1 a2 a3 k, LeO (spec_l08Sig.f k a0 a1 a2 a3) (spec_l08Sig.f (k + 1) a0 a1 a2 a3) := by
  intro a0 a1 a2 a3 k
  obtain ⟨ih0, ih1, ih2, ih3, ih4, ih5, ih6, ih7⟩ := spec_l08Type.mono_l k
  exact ih1 a0 a1 a2 a3
theorem spec_l08Type.mono : ∀ a0 a1 a2 a3 k, LeO (spec_l08Type.f k a0 a1 a2 a3) (spec_l08Type.f (k + 1) a0 a1 a2 a3) := by
  intro a0 a1 a2 a3 k
  obtain ⟨ih0, ih1, ih2, ih3, ih4, ih5, ih6, ih7⟩ := spec_l08Type.mono_l k
  exact ih4 a0 a1 a2 a3
abbrev spec_l08Two.C (k : Nat) : Prop := ∀ (A0_0 : Option Addr) (c0_0 : Nat) (l0_0 : List (S88)) (A0_1 : Option Addr) (c0_1 : Nat) (l0_1 : List (S125)) (A1 : Option Addr) (c1 : Nat) (l1 : List (S100)) (a2 : Int) (r : Bool) (w : World) (hr0_0 : Kd.C k88 w A0_0 l0_0.length l0_0) (hc0_0 : l0_0.length ≤ c0_0) (hr0_1 : Kd.C k125 w A0_1 l0_1.length l0_1) (hc0_1 : l0_1.length ≤ c0_1) (hr1 : Kd.C k100 w A1 l1.length l1) (hc1 : l1.length ≤ c1) (h : spec_l08Two.f k l0_0 l0_1 l1 a2 = some r),
  Calls Tryd.prog 99 #[.agg #[.slice A0_0 l0_0.length c0_0, .slice A0_1 l0_1.length c0_1], .slice A1 l1.length c1, .int .i64 a2] w fun e w' => e = .returned (.bool r) ∧ Below w.heap.size w w'
abbrev spec_l08Sig.C (k : Nat) : Prop := ∀ (A0_0 : Option Addr) (c0_0 : Nat) (l0_0 : List (S88)) (P0_1_ : Nat → Prop) (A0_1 : Option Addr) (c0_1 : Nat) (l0_1 : List (S125)) (A1 : Option Addr) (c1 : Nat) (l1 : List (S100)) (a2 : Int) (r1 : ByteArray) (r2 : List (S147)) (r3 : Int) (r4 : Int) (r5 : Int) (r6 : Bool) (w : World) (hr0_0 : Kd.C k88 w A0_0 l0_0.length l0_0) (hc0_0 : l0_0.length ≤ c0_0) (hs0_1 : Kd.V k125 125 w w.heap.size (fun k_ => P0_1_ k_) (.slice A0_1 l0_1.length c0_1) l0_1) (hr1 : Kd.C k100 w A1 l1.length l1) (hc1 : l1.length ≤ c1) (h : spec_l08Sig.f k l0_0 l0_1 l1 a2 = some (r1, r2, r3, r4, r5, r6)),
  Calls Tryd.prog 100 #[.agg #[.slice A0_0 l0_0.length c0_0, .slice A0_1 l0_1.length c0_1], .slice A1 l1.length c1, .int .i64 a2] w fun e w' => ∃ v1_ : Value, e = .returned (.tuple #[.agg #[.string r1, v1_, .int .i64 r3, .int .i64 r4, .int .i64 r5], .bool r6]) ∧ Kd.V k147 147 w' w.heap.size (fun k_ => (P0_1_ k_ ∨ w.heap.size ≤ k_)) v1_ r2 ∧ Below w.heap.size w w'
abbrev spec_l08Type.C (k : Nat) : Prop := ∀ (A0_0 : Option Addr) (c0_0 : Nat) (l0_0 : List (S88)) (A0_1 : Option Addr) (c0_1 : Nat) (l0_1 : List (S125)) (A1 : Option Addr) (c1 : Nat) (l1 : List (S100)) (a2 : Int) (r : Int) (w : World) (hr0_0 : Kd.C k88 w A0_0 l0_0.length l0_0) (hc0_0 : l0_0.length ≤ c0_0) (hr0_1 : Kd.C k125 w A0_1 l0_1.length l0_1) (hc0_1 : l0_1.length ≤ c0_1) (hr1 : Kd.C k100 w A1 l1.length l1) (hc1 : l1.length ≤ c1) (h : spec_l08Type.f k l0_0 l0_1 l1 a2 = some r),
  Calls Tryd.prog 74 #[.agg #[.slice A0_0 l0_0.length c0_0, .slice A0_1 l0_1.length c0_1], .slice A1 l1.length c1, .int .i64 a2] w fun e w' => e = .returned (.int .i64 r) ∧ Below w.heap.size w w'
def spec_l08Two.T2 : Bool × List (List Nat × List Nat) := (true, [([], []), ([], []), ([], []), ([2], [2]), ([3], [3]), ([4], [4]), ([0, 1, 5], [0, 1, 5]), ([6], [6]), ([7, 6], [7]), ([8], [8]), ([8], [8]), ([8], [8]), ([11, 8], [8, 11]), ([12, 8], [8, 12]), ([13, 8], [8, 13]), ([9, 10, 14, 8, 8], [8, 9, 10, 14]), ([15, 8], [8, 15]), ([8, 16], [8, 16]), ([17, 15, 0, 1, 2, 3, 4, 5, 6, 7, 8, 9, 10, 11, 12, 13, 14, 15, 16, 17], [17])])
def spec_l08Two.B2 : List Nat := [0, 0, 0, 4, 12, 28, 63, 127, 255, 511, 511, 511, 2559, 6655, 14847, 32767, 65535, 131071, 262143]
theorem spec_l08Two.tab2 : rtab .any (opsOf Tryd.f99 2) = spec_l08Two.T2 := by kernel_rfl
theorem spec_l08Two.bits2 : waitsOk spec_l08Two.T2.2 spec_l08Two.B2 = true := by kernel_rfl
set_option maxHeartbeats 8000000 in
set_option maxRecDepth 100000 in
theorem spec_l08Two.callsO (k : Nat) (ih : ∀ m_, m_ < k → spec_l08Two.C m_) (ih_spec_l08Sig : ∀ m_, m_ < k → spec_l08Sig.C m_) (ih_spec_l08Type : ∀ m_, m_ < k → spec_l08Type.C m_) : spec_l08Two.C k := by
 intro A0_0 c0_0 l0_0 A0_1 c0_1 l0_1 A1 c1 l1 a2 r w hr0_0 hc0_0 hr0_1 hc0_1 hr1 hc1 h
 cases k with
 | zero => exact absurd h (by simp [spec_l08Two.f])
 | succ k =>
 simp only [spec_l08Two.f] at h
 have hu43 := Tryd.underlying43
 have hu88 := Tryd.underlying88
 have HR0_0 := As.mk hr0_0
 have HC0_0 := As.mk hc0_0
 clear hr0_0 hc0_0
 have HR0_1 := As.mk hr0_1
 have HC0_1 := As.mk hc0_1
 clear hr0_1 hc0_1
 have HR1 := As.mk hr1
 have HC1 := As.mk hc1
 clear hr1 hc1
 have HB := As.mk (Below.refl w.heap.size w)
 have H : (if 0 ≤ a2 then (if a2 < (l0_0.length : Int) then (if 0 < (((rd_T88 l0_0 a2).f3).length : Int) then ((spec_l08Type.f k l0_0 l0_1 l1 (rd ((rd_T88 l0_0 a2).f3) 0)).bind fun t267 => (if t267 = 1 then (if 1 < (((rd_T88 l0_0 a2).f3).length : Int) then ((spec_l08Type.f k l0_0 l0_1 l1 (rd ((rd_T88 l0_0 a2).f3) 1)).bind fun t269 => (some (t269 == 1))) else (none)) else (some false))) else (none)) else (none)) else (none)) = some r := h
 clear h
 by_cases c4 : 0 ≤ a2
 rotate_left; · rw [if_neg c4] at H; exact absurd H (by simp)

 rw [if_pos c4] at H
 have c4b0 : decide (0 ≤ a2) = true := decide_eq_true c4
 clear c4
 by_cases c5 : a2 < (l0_0.length : Int)
 rotate_left; · rw [if_neg c5] at H; exact absurd H (by simp)
 rw [if_pos c5] at H
 have c5b0 : decide (a2 < (l0_0.length : Int)) = true := decide_eq_true c5
 clear c5
 by_cases c6 : 0 < (((rd_T88 l0_0 a2).f3).length : Int)
 rotate_left; · rw [if_neg c6] at H; exact absurd H (by simp)
 rw [if_pos c6] at H
 have c6b0 : decide (0 < (((rd_T88 l0_0 a2).f3).length : Int)) = true := decide_eq_true c6
 have c6b1 : decide (0 < ((rd_T88 l0_0 a2).f3).length) = true := decide_eq_true (by omega)
 clear c6
 obtain ⟨t267, A70, H⟩ := Option.bind_eq_some_iff.mp H
 try dsimp only at H
 have A7 := As.mk A70
 clear A70
 by_cases c8 : t267 = 1
 rotate_left
 ·
  rw [if_neg c8] at H
  have c8b0 : (t267 == 1) = false := beq_eq_false_iff_ne.mpr c8
  have c8b1 : (t267 != 1) = true := bne_iff_ne.mpr c8
  obtain rfl := Option.some.inj H
  go_enter Tryd.func99, Tryd.ntmps99
  try go_wp2_with (first | ((with_reducible refine gate_dst (N := 3) rfl ?_); refine box_event ?hg (N := 3) ?hd (cs := #[.slice A0_0 l0_0.length c0_0, .slice A0_1 l0_1.length c0_1]) (t := 43) ?hr ?_; (case hd => rfl); (case hg => rfl); (case hr => first | (go_simp; done) | (go_simp; rfl)); intro gb263 hg w20 hbox hb; have BK263 := As.mk (hbox); have GW263 := As.mk (gs w hg); have GE263 := As.mk (gs w hg); replace HB := As.mk (below_step (be w) hb); clear hb hbox hg; obtain ⟨hcz21_0, hcz21_1, hfz21_0, hfz21_1⟩ := cl2 BK263.out; have p264 : 0 ≤ (a2 : Int) := od; have q264 : a2 < (l0_0.length : Int) := od; obtain ⟨ad264, A264_3, c264_3, e264, hx264_0, hx264_1, hx264_2, hx264_3, hl264_3, hi264_3⟩ := at_T88 HR0_0.out a2 p264 q264; cases e264; replace hx264_0 := ce HB.out hx264_0; replace hx264_1 := ce HB.out hx264_1; replace hx264_2 := ce HB.out hx264_2; replace hx264_3 := ce HB.out hx264_3; have HR264_3 := As.mk hi264_3; have HC264_3 := As.mk hl264_3; clear hi264_3 hl264_3; replace p264 := eq_true p264; replace q264 := eq_true q264) | ((with_reducible refine gate_dst (N := 7) rfl ?_); refine box_event ?hg (N := 7) ?hd (cs := #[.int .i64 0, .int .i64 0, .string (⟨#[]⟩ : ByteArray), .slice none 0 0]) (t := 88) ?hr ?_; (case hd => rfl); (case hg => rfl); (case hr => first | (go_simp; done) | (go_simp; rfl)); intro gb265 hg w22 hbox hb; have BK265 := As.mk (hbox); have GW265 := As.mk (gs w hg); have GE265 := As.mk (gs w hg); replace HB := As.mk (below_step (be w) hb); have NB263_265 := As.mk (nl hg (bx BK263.out)); have NB265_263 := As.mk (ng hg (bx BK263.out)); replace BK263 := As.mk (blk_below (bx BK263.out) hb); clear hb hbox hg; have hnb23 := NB265_263.out; have hnc23 := NB263_265.out; obtain ⟨hcz24_0, hcz24_1, hcz24_2, hcz24_3, hfz24_0, hfz24_1, hfz24_2, hfz24_3⟩ := cl4 BK265.out))
  have n0_ : As (((((w22.setCell ⟨gb265, 0, none⟩ (.int .i64 ((rd_T88 l0_0 a2).f0))).setCell ⟨gb265, 1, none⟩ (.int .i64 ((rd_T88 l0_0 a2).f1))).setCell ⟨gb265, 2, none⟩ (.string ((rd_T88 l0_0 a2).f2))).setCell ⟨gb265, 3, none⟩ (.slice A264_3 ((rd_T88 l0_0 a2).f3).length c264_3)).heap[gb263]? = some (.cells #[.slice (some ad264) l0_0.length c0_0, .slice A0_1 l0_1.length c0_1] 43 (0, 0))) := ⟨by refine pl ?_; refine blk_far ?_ NB263_265.out _; refine pl ?_; refine blk_far ?_ NB263_265.out _; refine pl ?_; refine blk_far ?_ NB263_265.out _; refine pl ?_; refine blk_far ?_ NB263_265.out _; exact bx BK263.out⟩
  have n1_ : As (((((w22.setCell ⟨gb265, 0, none⟩ (.int .i64 ((rd_T88 l0_0 a2).f0))).setCell ⟨gb265, 1, none⟩ (.int .i64 ((rd_T88 l0_0 a2).f1))).setCell ⟨gb265, 2, none⟩ (.string ((rd_T88 l0_0 a2).f2))).setCell ⟨gb265, 3, none⟩ (.slice A264_3 ((rd_T88 l0_0 a2).f3).length c264_3)).heap[gb265]? = some (.cells #[.int .i64 ((rd_T88 l0_0 a2).f0), .int .i64 ((rd_T88 l0_0 a2).f1), .string ((rd_T88 l0_0 a2).f2), .slice A264_3 ((rd_T88 l0_0 a2).f3).length c264_3] 88 (0, 0))) := ⟨by refine pl ?_; refine blk_put (cs := #[.int .i64 ((rd_T88 l0_0 a2).f0), .int .i64 ((rd_T88 l0_0 a2).f1), .string ((rd_T88 l0_0 a2).f2), .slice none 0 0]) ?_ 3 _ rfl; refine pl ?_; refine blk_put (cs := #[.int .i64 ((rd_T88 l0_0 a2).f0), .int .i64 ((rd_T88 l0_0 a2).f1), .string (⟨#[]⟩ : ByteArray), .slice none 0 0]) ?_ 2 _ rfl; refine pl ?_; refine blk_put (cs := #[.int .i64 ((rd_T88 l0_0 a2).f0), .int .i64 0, .string (⟨#[]⟩ : ByteArray), .slice none 0 0]) ?_ 1 _ rfl; refine pl ?_; refine blk_put (cs := #[.int .i64 0, .int .i64 0, .string (⟨#[]⟩ : ByteArray), .slice none 0 0]) ?_ 0 _ rfl; exact bx BK265.out⟩
  have n2_ : As (Below w.heap.size w ((((w22.setCell ⟨gb265, 0, none⟩ (.int .i64 ((rd_T88 l0_0 a2).f0))).setCell ⟨gb265, 1, none⟩ (.int .i64 ((rd_T88 l0_0 a2).f1))).setCell ⟨gb265, 2, none⟩ (.string ((rd_T88 l0_0 a2).f2))).setCell ⟨gb265, 3, none⟩ (.slice A264_3 ((rd_T88 l0_0 a2).f3).length c264_3))) := ⟨be w⟩
  (try clear BK263)
  (try clear BK265)
  (try clear HB)
  generalize ((((w22.setCell ⟨gb265, 0, none⟩ (.int .i64 ((rd_T88 l0_0 a2).f0))).setCell ⟨gb265, 1, none⟩ (.int .i64 ((rd_T88 l0_0 a2).f1))).setCell ⟨gb265, 2, none⟩ (.string ((rd_T88 l0_0 a2).f2))).setCell ⟨gb265, 3, none⟩ (.slice A264_3 ((rd_T88 l0_0 a2).f3).length c264_3)) = w25 at n0_ n1_ n2_ ⊢
  have BK263 := n0_
  have BK265 := n1_
  have HB := n2_
  clear n0_ n1_ n2_
  replace BK263 := As.mk (blk_drew BK263.out)
  replace BK265 := As.mk (blk_drew BK265.out)
  replace HB := As.mk (below_drew1 HB.out)
  have p266 : 0 ≤ (0 : Int) := (by omega)
  have q266 : 0 < (((rd_T88 l0_0 a2).f3).length : Int) := od
  obtain ⟨ad266, e266, hx266_0⟩ := Kd.at_int HR264_3.out 0 p266 q266
  have hw266_0 := hx266_0
  (try rw [show ((0 : Int)).toNat = 0 from rfl] at hw266_0)
  (try rw [show 0 * 1 = 0 from rfl] at hw266_0)
  (try rw [Addr.add_zero'] at hw266_0)
  cases e266
  have qi266 : (0 < ((rd_T88 l0_0 a2).f3).length) = True := eq_true (by omega)
  (try rw [show ((0 : Int)).toNat = 0 from rfl] at hx266_0)
  (try rw [Addr.add_zero'] at hx266_0)
  replace hx266_0 := ce HB.out hx266_0
  replace p266 := eq_true p266
  replace q266 := eq_true q266
  refine start_ (n := 19) (S := fun w' => w'.cell? ⟨gb263, 0, none⟩ = some (.slice (some ad264) l0_0.length c0_0) ∧ w'.cell? ⟨gb263, 1, none⟩ = some (.slice A0_1 l0_1.length c0_1) ∧ w'.cell? ⟨gb265, 0, none⟩ = some (.int .i64 ((rd_T88 l0_0 a2).f0)) ∧ w'.cell? ⟨gb265, 1, none⟩ = some (.int .i64 ((rd_T88 l0_0 a2).f1)) ∧ w'.cell? ⟨gb265, 2, none⟩ = some (.string ((rd_T88 l0_0 a2).f2)) ∧ w'.cell? ⟨gb265, 3, none⟩ = some (.slice (some ad266) ((rd_T88 l0_0 a2).f3).length c264_3) ∧ w'.cell? ad266 = some (.int .i64 (rd ((rd_T88 l0_0 a2).f3) 0))) (ds := []) #[O, O, O, O, O, O, O, O, O, O, O, O, O, O, O, O, O, O, O] (by kernel_rfl) rfl rfl ⟨(blk_cell BK263.out 0).trans rfl, (blk_cell BK263.out 1).trans rfl, (blk_cell BK265.out 0).trans rfl, (blk_cell BK265.out 1).trans rfl, (blk_cell BK265.out 2).trans rfl, (blk_cell BK265.out 3).trans rfl, (ce HB.out hw266_0 :)⟩ (fun hHeld => ?_); refine with_tabW spec_l08Two.tab2 spec_l08Two.bits2 (fun HT_ HW_ => ?_)
  generalize w25.drew = w26 at BK263 BK265 HB hx266_0 hHeld ⊢
  refine pure_ (i := 1) (N := some 14) (v := ?_) (a' := ?_) #[O, I, O, O, O, O, O, O, O, O, O, O, O, O, O, O, O, O, O] rfl rfl (any_of HT_.out (by kernel_rfl)) (fun _ _ _ h => h) (Or.inl ⟨by rfl, ?_⟩) ?_ ?_
  rotate_left; · intro w'; go_simp; with_reducible rfl
  rotate_left; · simp only [pk, i64_w, i32_w]; rfl
  refine pure_ (i := 2) (N := some 15) (v := ?_) (a' := ?_) #[O, I, I, O, O, O, O, O, O, O, O, O, O, O, O, O, O, O, O] rfl rfl (any_of HT_.out (by kernel_rfl)) (fun _ _ _ h => h) (Or.inl ⟨by rfl, ?_⟩) ?_ ?_
  rotate_left; · intro w'; go_simp; with_reducible rfl
  rotate_left; · simp only [pk, i64_w, i32_w]; rfl
  refine take_ (i := 0) (N := some 13) (v := ?_) (a' := ?_) #[I, I, I, O, O, O, O, O, O, O, O, O, O, O, O, O, O, O, O] rfl rfl (take_ofW HT_.out HW_.out (by kernel_rfl)) (fun _ _ _ h => h) (Or.inl ⟨by rfl, ?_⟩) hHeld ?_ ?_
  rotate_left; · rintro w' ⟨s0, s1, s2, s3, s4, s5, s6⟩; go_simp; with_reducible rfl
  rotate_left; · simp only [pk, i64_w, i32_w]; rfl
  refine take_ (i := 3) (N := some 16) (v := ?_) (a' := ?_) #[I, I, I, I, O, O, O, O, O, O, O, O, O, O, O, O, O, O, O] rfl rfl (take_ofW HT_.out HW_.out (by kernel_rfl)) (fun _ _ _ h => h) (Or.inl ⟨by rfl, ?_⟩) hHeld ?_ ?_
  rotate_left; · rintro w' ⟨s0, s1, s2, s3, s4, s5, s6⟩; go_simp; with_reducible rfl
  rotate_left; · simp only [pk, i64_w, i32_w]; rfl
  refine pure_ (i := 4) (N := some 17) (v := ?_) (a' := ?_) #[I, I, I, I, I, O, O, O, O, O, O, O, O, O, O, O, O, O, O] rfl rfl (any_of HT_.out (by kernel_rfl)) (fun _ _ _ h => h) (Or.inl ⟨by rfl, ?_⟩) ?_ ?_
  rotate_left; · intro w'; go_simp; with_reducible rfl
  rotate_left; · simp only [pk, i64_w, i32_w]; rfl
  refine take_ (i := 5) (N := some 18) (v := ?_) (a' := ?_) #[I, I, I, I, I, I, O, O, O, O, O, O, O, O, O, O, O, O, O] rfl rfl (take_ofW HT_.out HW_.out (by kernel_rfl)) (fun _ _ _ h => h) (Or.inl ⟨by rfl, ?_⟩) hHeld ?_ ?_
  rotate_left; · rintro w' ⟨s0, s1, s2, s3, s4, s5, s6⟩; go_simp; with_reducible rfl
  rotate_left; · simp only [pk, i64_w, i32_w]; rfl
  refine one_ (i := 6) (N := some 19) #[I, I, I, I, I, I, I, O, O, O, O, O, O, O, O, O, O, O, O] rfl rfl (one_of HT_.out (by kernel_rfl)) (by decide) (fun K hK => ?_)
  refine goes_ Tryd.func74 (by kernel_rfl) rfl #[.agg #[.slice (some ad264) l0_0.length c0_0, .slice A0_1 l0_1.length c0_1], .slice A1 l1.length c1, .int .i64 (rd ((rd_T88 l0_0 a2).f3) 0)] (by rfl) rfl rfl (by (try simp only [lm]); first | done | rfl | (simp only [List.length_drop, List.length_take]; rfl)) ?_
  with_reducible refine (ih_spec_l08Type k (by omega) _ _ l0_0 _ _ l0_1 _ _ l1 (rd ((rd_T88 l0_0 a2).f3) 0) t267 _ ?side1 ?side2 ?side3 ?side4 ?side5 ?side6 A7.out).mono ?_
  (case side1 => exact Kd.C_below HR0_0.out (be w))
  (case side2 => exact HC0_0.out)
  (case side3 => exact Kd.C_below HR0_1.out (be w))
  (case side4 => exact HC0_1.out)
  (case side5 => exact Kd.C_below HR1.out (be w))
  (case side6 => exact HC1.out)
  rintro e w27 ⟨rfl, hb⟩
  refine ⟨_, rfl, ?_⟩
  replace BK263 := As.mk (blk_below (bx BK263.out) hb)
  replace BK265 := As.mk (blk_below (bx BK265.out) hb)
  replace HB := As.mk (below_step (be w) hb)
  (try clear hb)
  (try clear hb2)
  (try clear hk)
  (try clear hi)
  refine hK.out _ _ ⟨(blk_cell BK263.out 0).trans rfl, (blk_cell BK263.out 1).trans rfl, (blk_cell BK265.out 0).trans rfl, (blk_cell BK265.out 1).trans rfl, (blk_cell BK265.out 2).trans rfl, (blk_cell BK265.out 3).trans rfl, (ce HB.out hw266_0 :)⟩ (fun hHeld => ?_)
  clear hK K
  refine norm_ (a' := ?_) ?_ ?_
  rotate_left
  ·
   show Act.put _ (some 19) _ = _
   simp only [pk, i64_w, i32_w]
   rfl
  refine pure_ (i := 7) (N := some 20) (v := ?_) (a' := ?_) #[I, I, I, I, I, I, I, I, O, O, O, O, O, O, O, O, O, O, O] rfl rfl (any_of HT_.out (by kernel_rfl)) (fun _ _ _ h => h) (Or.inl ⟨by rfl, ?_⟩) ?_ ?_
  rotate_left; · intro w'; go_simp; with_reducible rfl
  rotate_left; · simp only [pk, i64_w, i32_w]; rfl
  refine pure_ (i := 8) (N := some 21) (v := ?_) (a' := ?_) #[I, I, I, I, I, I, I, I, I, O, O, O, O, O, O, O, O, O, O] rfl rfl (any_of HT_.out (by kernel_rfl)) (fun _ _ _ h => h) (Or.inl ⟨by rfl, ?_⟩) ?_ ?_
  rotate_left; · intro w'; go_simp; with_reducible rfl
  rotate_left; · simp only [pk, i64_w, i32_w]; rfl
  refine pure_ (i := 9) (N := some 22) (v := undef) (a' := ?_) #[I, I, I, I, I, I, I, I, I, I, O, O, O, O, O, O, O, O, O] rfl rfl (any_of HT_.out (by kernel_rfl)) (fun _ _ _ h => h) (Or.inr ⟨by rfl, rfl⟩) ?_ ?_
  rotate_left; · simp only [pk, i64_w, i32_w]; rfl
  refine pure_ (i := 10) (N := some 23) (v := undef) (a' := ?_) #[I, I, I, I, I, I, I, I, I, I, I, O, O, O, O, O, O, O, O] rfl rfl (any_of HT_.out (by kernel_rfl)) (fun _ _ _ h => h) (Or.inr ⟨by rfl, rfl⟩) ?_ ?_
  rotate_left; · simp only [pk, i64_w, i32_w]; rfl
  refine pure_ (i := 11) (N := some 24) (v := undef) (a' := ?_) #[I, I, I, I, I, I, I, I, I, I, I, I, O, O, O, O, O, O, O] rfl rfl (any_of HT_.out (by kernel_rfl)) (fun _ _ _ h => h) (Or.inr ⟨by rfl, rfl⟩) ?_ ?_
  rotate_left; · simp only [pk, i64_w, i32_w]; rfl
  refine pure_ (i := 12) (N := some 25) (v := undef) (a' := ?_) #[I, I, I, I, I, I, I, I, I, I, I, I, I, O, O, O, O, O, O] rfl rfl (any_of HT_.out (by kernel_rfl)) (fun _ _ _ h => h) (Or.inr ⟨by rfl, rfl⟩) ?_ ?_
  rotate_left; · simp only [pk, i64_w, i32_w]; rfl
  refine pure_ (i := 13) (N := some 26) (v := undef) (a' := ?_) #[I, I, I, I, I, I, I, I, I, I, I, I, I, I, O, O, O, O, O] rfl rfl (any_of HT_.out (by kernel_rfl)) (fun _ _ _ h => h) (Or.inr ⟨by rfl, rfl⟩) ?_ ?_
  rotate_left; · simp only [pk, i64_w, i32_w]; rfl
  refine pure_ (i := 14) (N := some 27) (v := undef) (a' := ?_) #[I, I, I, I, I, I, I, I, I, I, I, I, I, I, I, O, O, O, O] rfl rfl (any_of HT_.out (by kernel_rfl)) (fun _ _ _ h => h) (Or.inr ⟨by rfl, rfl⟩) ?_ ?_
  rotate_left; · simp only [pk, i64_w, i32_w]; rfl
  refine pure_ (i := 15) (N := some 28) (v := undef) (a' := ?_) #[I, I, I, I, I, I, I, I, I, I, I, I, I, I, I, I, O, O, O] rfl rfl (any_of HT_.out (by kernel_rfl)) (fun _ _ _ h => h) (Or.inr ⟨by rfl, rfl⟩) ?_ ?_
  rotate_left; · simp only [pk, i64_w, i32_w]; rfl
  refine pure_ (i := 16) (N := some 29) (v := undef) (a' := ?_) #[I, I, I, I, I, I, I, I, I, I, I, I, I, I, I, I, I, O, O] rfl rfl (any_of HT_.out (by kernel_rfl)) (fun _ _ _ h => h) (Or.inr ⟨by rfl, rfl⟩) ?_ ?_
  rotate_left; · simp only [pk, i64_w, i32_w]; rfl
  refine pure_ (i := 17) (N := some 30) (v := ?_) (a' := ?_) #[I, I, I, I, I, I, I, I, I, I, I, I, I, I, I, I, I, I, O] rfl rfl (any_of HT_.out (by kernel_rfl)) (fun _ _ _ h => h) (Or.inl ⟨by rfl, ?_⟩) ?_ ?_
  rotate_left; · intro w'; go_simp; with_reducible rfl
  rotate_left; · simp only [pk, i64_w, i32_w]; rfl
  refine pure_ (i := 18) (N := some 6) (v := ?_) (a' := ?_) #[I, I, I, I, I, I, I, I, I, I, I, I, I, I, I, I, I, I, I] rfl rfl (any_of HT_.out (by kernel_rfl)) (fun _ _ _ h => h) (Or.inl ⟨by rfl, ?_⟩) ?_ ?_
  rotate_left; · intro w'; go_simp; with_reducible rfl
  rotate_left; · simp only [pk, i64_w, i32_w]; rfl
  refine done_ (done_of HT_.out (by kernel_rfl)) ?_
  try go_wp2
  go_ret
  exact (ew (be w))
 rw [if_pos c8] at H
 have c8b0 : (t267 == 1) = true := beq_iff_eq.mpr c8
 have c8b1 : (t267 != 1) = false := bne_eq_false_iff_eq.mpr c8
 clear c8
 by_cases c9 : 1 < (((rd_T88 l0_0 a2).f3).length : Int)
 rotate_left; · rw [if_neg c9] at H; exact absurd H (by simp)
 rw [if_pos c9] at H
 have c9b0 : decide (1 < (((rd_T88 l0_0 a2).f3).length : Int)) = true := decide_eq_true c9
 have c9b1 : decide (1 < ((rd_T88 l0_0 a2).f3).length) = true := decide_eq_true (by omega)
 clear c9
 obtain ⟨t269, A100, H⟩ := Option.bind_eq_some_iff.mp H
 try dsimp only at H
 have A10 := As.mk A100
 clear A100
 obtain rfl := Option.some.inj H
 go_enter Tryd.func99, Tryd.ntmps99
 try go_wp2_with (first | ((with_reducible refine gate_dst (N := 3) rfl ?_); refine box_event ?hg (N := 3) ?hd (cs := #[.slice A0_0 l0_0.length c0_0, .slice A0_1 l0_1.length c0_1]) (t := 43) ?hr ?_; (case hd => rfl); (case hg => rfl); (case hr => first | (go_simp; done) | (go_simp; rfl)); intro gb263 hg w11 hbox hb; have BK263 := As.mk (hbox); have GW263 := As.mk (gs w hg); have GE263 := As.mk (gs w hg); replace HB := As.mk (below_step (be w) hb); clear hb hbox hg; obtain ⟨hcz12_0, hcz12_1, hfz12_0, hfz12_1⟩ := cl2 BK263.out; have p264 : 0 ≤ (a2 : Int) := od; have q264 : a2 < (l0_0.length : Int) := od; obtain ⟨ad264, A264_3, c264_3, e264, hx264_0, hx264_1, hx264_2, hx264_3, hl264_3, hi264_3⟩ := at_T88 HR0_0.out a2 p264 q264; cases e264; replace hx264_0 := ce HB.out hx264_0; replace hx264_1 := ce HB.out hx264_1; replace hx264_2 := ce HB.out hx264_2; replace hx264_3 := ce HB.out hx264_3; have HR264_3 := As.mk hi264_3; have HC264_3 := As.mk hl264_3; clear hi264_3 hl264_3; replace p264 := eq_true p264; replace q264 := eq_true q264) | ((with_reducible refine gate_dst (N := 7) rfl ?_); refine box_event ?hg (N := 7) ?hd (cs := #[.int .i64 0, .int .i64 0, .string (⟨#[]⟩ : ByteArray), .slice none 0 0]) (t := 88) ?hr ?_; (case hd => rfl); (case hg => rfl); (case hr => first | (go_simp; done) | (go_simp; rfl)); intro gb265 hg w13 hbox hb; have BK265 := As.mk (hbox); have GW265 := As.mk (gs w hg); have GE265 := As.mk (gs w hg); replace HB := As.mk (below_step (be w) hb); have NB263_265 := As.mk (nl hg (bx BK263.out)); have NB265_263 := As.mk (ng hg (bx BK263.out)); replace BK263 := As.mk (blk_below (bx BK263.out) hb); clear hb hbox hg; have hnb14 := NB265_263.out; have hnc14 := NB263_265.out; obtain ⟨hcz15_0, hcz15_1, hcz15_2, hcz15_3, hfz15_0, hfz15_1, hfz15_2, hfz15_3⟩ := cl4 BK265.out))
 have n0_ : As (((((w13.setCell ⟨gb265, 0, none⟩ (.int .i64 ((rd_T88 l0_0 a2).f0))).setCell ⟨gb265, 1, none⟩ (.int .i64 ((rd_T88 l0_0 a2).f1))).setCell ⟨gb265, 2, none⟩ (.string ((rd_T88 l0_0 a2).f2))).setCell ⟨gb265, 3, none⟩ (.slice A264_3 ((rd_T88 l0_0 a2).f3).length c264_3)).heap[gb263]? = some (.cells #[.slice (some ad264) l0_0.length c0_0, .slice A0_1 l0_1.length c0_1] 43 (0, 0))) := ⟨by refine pl ?_; refine blk_far ?_ NB263_265.out _; refine pl ?_; refine blk_far ?_ NB263_265.out _; refine pl ?_; refine blk_far ?_ NB263_265.out _; refine pl ?_; refine blk_far ?_ NB263_265.out _; exact bx BK263.out⟩
 have n1_ : As (((((w13.setCell ⟨gb265, 0, none⟩ (.int .i64 ((rd_T88 l0_0 a2).f0))).setCell ⟨gb265, 1, none⟩ (.int .i64 ((rd_T88 l0_0 a2).f1))).setCell ⟨gb265, 2, none⟩ (.string ((rd_T88 l0_0 a2).f2))).setCell ⟨gb265, 3, none⟩ (.slice A264_3 ((rd_T88 l0_0 a2).f3).length c264_3)).heap[gb265]? = some (.cells #[.int .i64 ((rd_T88 l0_0 a2).f0), .int .i64 ((rd_T88 l0_0 a2).f1), .string ((rd_T88 l0_0 a2).f2), .slice A264_3 ((rd_T88 l0_0 a2).f3).length c264_3] 88 (0, 0))) := ⟨by refine pl ?_; refine blk_put (cs := #[.int .i64 ((rd_T88 l0_0 a2).f0), .int .i64 ((rd_T88 l0_0 a2).f1), .string ((rd_T88 l0_0 a2).f2), .slice none 0 0]) ?_ 3 _ rfl; refine pl ?_; refine blk_put (cs := #[.int .i64 ((rd_T88 l0_0 a2).f0), .int .i64 ((rd_T88 l0_0 a2).f1), .string (⟨#[]⟩ : ByteArray), .slice none 0 0]) ?_ 2 _ rfl; refine pl ?_; refine blk_put (cs := #[.int .i64 ((rd_T88 l0_0 a2).f0), .int .i64 0, .string (⟨#[]⟩ : ByteArray), .slice none 0 0]) ?_ 1 _ rfl; refine pl ?_; refine blk_put (cs := #[.int .i64 0, .int .i64 0, .string (⟨#[]⟩ : ByteArray), .slice none 0 0]) ?_ 0 _ rfl; exact bx BK265.out⟩
 have n2_ : As (Below w.heap.size w ((((w13.setCell ⟨gb265, 0, none⟩ (.int .i64 ((rd_T88 l0_0 a2).f0))).setCell ⟨gb265, 1, none⟩ (.int .i64 ((rd_T88 l0_0 a2).f1))).setCell ⟨gb265, 2, none⟩ (.string ((rd_T88 l0_0 a2).f2))).setCell ⟨gb265, 3, none⟩ (.slice A264_3 ((rd_T88 l0_0 a2).f3).length c264_3))) := ⟨be w⟩
 (try clear BK263)
 (try clear BK265)
 (try clear HB)
 generalize ((((w13.setCell ⟨gb265, 0, none⟩ (.int .i64 ((rd_T88 l0_0 a2).f0))).setCell ⟨gb265, 1, none⟩ (.int .i64 ((rd_T88 l0_0 a2).f1))).setCell ⟨gb265, 2, none⟩ (.string ((rd_T88 l0_0 a2).f2))).setCell ⟨gb265, 3, none⟩ (.slice A264_3 ((rd_T88 l0_0 a2).f3).length c264_3)) = w16 at n0_ n1_ n2_ ⊢
 have BK263 := n0_
 have BK265 := n1_
 have HB := n2_
 clear n0_ n1_ n2_
 replace BK263 := As.mk (blk_drew BK263.out)
 replace BK265 := As.mk (blk_drew BK265.out)
 replace HB := As.mk (below_drew1 HB.out)
 have p266 : 0 ≤ (0 : Int) := (by omega)
 have q266 : 0 < (((rd_T88 l0_0 a2).f3).length : Int) := od
 obtain ⟨ad266, e266, hx266_0⟩ := Kd.at_int HR264_3.out 0 p266 q266
 have hw266_0 := hx266_0
 (try rw [show ((0 : Int)).toNat = 0 from rfl] at hw266_0)
 (try rw [show 0 * 1 = 0 from rfl] at hw266_0)
 (try rw [Addr.add_zero'] at hw266_0)
 cases e266
 have qi266 : (0 < ((rd_T88 l0_0 a2).f3).length) = True := eq_true (by omega)
 (try rw [show ((0 : Int)).toNat = 0 from rfl] at hx266_0)
 (try rw [Addr.add_zero'] at hx266_0)
 replace hx266_0 := ce HB.out hx266_0
 replace p266 := eq_true p266
 replace q266 := eq_true q266
 have p268 : 0 ≤ (1 : Int) := (by omega)
 have q268 : 1 < (((rd_T88 l0_0 a2).f3).length : Int) := od
 obtain ⟨ad268, e268, hx268_0⟩ := Kd.at_int HR264_3.out 1 p268 q268
 have hw268_0 := hx268_0
 (try rw [show ((1 : Int)).toNat = 1 from rfl] at hw268_0)
 (try rw [show 1 * 1 = 1 from rfl] at hw268_0)
 (try simp only [Nat.reduceMul, Nat.reduceEqDiff, Go.Addr.add, ↓reduceIte] at hw268_0)
 obtain rfl : ad266 = ad268 := (by injection e268)
 (try simp only [show (1 : Int).toNat = 1 from rfl, Nat.reduceMul, Nat.reduceEqDiff, Go.Addr.add, ↓reduceIte] at hx268_0)
 have qi268 : (1 < ((rd_T88 l0_0 a2).f3).length) = True := eq_true (by omega)
 (try rw [show ((1 : Int)).toNat = 1 from rfl] at hx268_0)
 replace hx268_0 := ce HB.out hx268_0
 replace p268 := eq_true p268
 replace q268 := eq_true q268
 refine start_ (n := 19) (S := fun w' => w'.cell? ⟨gb263, 0, none⟩ = some (.slice (some ad264) l0_0.length c0_0) ∧ w'.cell? ⟨gb263, 1, none⟩ = some (.slice A0_1 l0_1.length c0_1) ∧ w'.cell? ⟨gb265, 0, none⟩ = some (.int .i64 ((rd_T88 l0_0 a2).f0)) ∧ w'.cell? ⟨gb265, 1, none⟩ = some (.int .i64 ((rd_T88 l0_0 a2).f1)) ∧ w'.cell? ⟨gb265, 2, none⟩ = some (.string ((rd_T88 l0_0 a2).f2)) ∧ w'.cell? ⟨gb265, 3, none⟩ = some (.slice (some ad266) ((rd_T88 l0_0 a2).f3).length c264_3) ∧ w'.cell? ad266 = some (.int .i64 (rd ((rd_T88 l0_0 a2).f3) 0)) ∧ w'.cell? ⟨ad266.block, ad266.off + 1, none⟩ = some (.int .i64 (rd ((rd_T88 l0_0 a2).f3) 1))) (ds := []) #[O, O, O, O, O, O, O, O, O, O, O, O, O, O, O, O, O, O, O] (by kernel_rfl) rfl rfl ⟨(blk_cell BK263.out 0).trans rfl, (blk_cell BK263.out 1).trans rfl, (blk_cell BK265.out 0).trans rfl, (blk_cell BK265.out 1).trans rfl, (blk_cell BK265.out 2).trans rfl, (blk_cell BK265.out 3).trans rfl, (ce HB.out hw266_0 :), (ce HB.out hw268_0 :)⟩ (fun hHeld => ?_); refine with_tabW spec_l08Two.tab2 spec_l08Two.bits2 (fun HT_ HW_ => ?_)
 generalize w16.drew = w17 at BK263 BK265 HB hx266_0 hx268_0 hHeld ⊢
 refine pure_ (i := 1) (N := some 14) (v := ?_) (a' := ?_) #[O, I, O, O, O, O, O, O, O, O, O, O, O, O, O, O, O, O, O] rfl rfl (any_of HT_.out (by kernel_rfl)) (fun _ _ _ h => h) (Or.inl ⟨by rfl, ?_⟩) ?_ ?_
 rotate_left; · intro w'; go_simp; with_reducible rfl
 rotate_left; · simp only [pk, i64_w, i32_w]; rfl
 refine pure_ (i := 2) (N := some 15) (v := ?_) (a' := ?_) #[O, I, I, O, O, O, O, O, O, O, O, O, O, O, O, O, O, O, O] rfl rfl (any_of HT_.out (by kernel_rfl)) (fun _ _ _ h => h) (Or.inl ⟨by rfl, ?_⟩) ?_ ?_
 rotate_left; · intro w'; go_simp; with_reducible rfl
 rotate_left; · simp only [pk, i64_w, i32_w]; rfl
 refine take_ (i := 0) (N := some 13) (v := ?_) (a' := ?_) #[I, I, I, O, O, O, O, O, O, O, O, O, O, O, O, O, O, O, O] rfl rfl (take_ofW HT_.out HW_.out (by kernel_rfl)) (fun _ _ _ h => h) (Or.inl ⟨by rfl, ?_⟩) hHeld ?_ ?_
 rotate_left; · rintro w' ⟨s0, s1, s2, s3, s4, s5, s6, s7⟩; go_simp; with_reducible rfl
 rotate_left; · simp only [pk, i64_w, i32_w]; rfl
 refine take_ (i := 3) (N := some 16) (v := ?_) (a' := ?_) #[I, I, I, I, O, O, O, O, O, O, O, O, O, O, O, O, O, O, O] rfl rfl (take_ofW HT_.out HW_.out (by kernel_rfl)) (fun _ _ _ h => h) (Or.inl ⟨by rfl, ?_⟩) hHeld ?_ ?_
 rotate_left; · rintro w' ⟨s0, s1, s2, s3, s4, s5, s6, s7⟩; go_simp; with_reducible rfl
 rotate_left; · simp only [pk, i64_w, i32_w]; rfl
 refine pure_ (i := 4) (N := some 17) (v := ?_) (a' := ?_) #[I, I, I, I, I, O, O, O, O, O, O, O, O, O, O, O, O, O, O] rfl rfl (any_of HT_.out (by kernel_rfl)) (fun _ _ _ h => h) (Or.inl ⟨by rfl, ?_⟩) ?_ ?_
 rotate_left; · intro w'; go_simp; with_reducible rfl
 rotate_left; · simp only [pk, i64_w, i32_w]; rfl
 refine take_ (i := 5) (N := some 18) (v := ?_) (a' := ?_) #[I, I, I, I, I, I, O, O, O, O, O, O, O, O, O, O, O, O, O] rfl rfl (take_ofW HT_.out HW_.out (by kernel_rfl)) (fun _ _ _ h => h) (Or.inl ⟨by rfl, ?_⟩) hHeld ?_ ?_
 rotate_left; · rintro w' ⟨s0, s1, s2, s3, s4, s5, s6, s7⟩; go_simp; with_reducible rfl
 rotate_left; · simp only [pk, i64_w, i32_w]; rfl
 refine one_ (i := 6) (N := some 19) #[I, I, I, I, I, I, I, O, O, O, O, O, O, O, O, O, O, O, O] rfl rfl (one_of HT_.out (by kernel_rfl)) (by decide) (fun K hK => ?_)
 refine goes_ Tryd.func74 (by kernel_rfl) rfl #[.agg #[.slice (some ad264) l0_0.length c0_0, .slice A0_1 l0_1.length c0_1], .slice A1 l1.length c1, .int .i64 (rd ((rd_T88 l0_0 a2).f3) 0)] (by rfl) rfl rfl (by (try simp only [lm]); first | done | rfl | (simp only [List.length_drop, List.length_take]; rfl)) ?_
 with_reducible refine (ih_spec_l08Type k (by omega) _ _ l0_0 _ _ l0_1 _ _ l1 (rd ((rd_T88 l0_0 a2).f3) 0) t267 _ ?side1 ?side2 ?side3 ?side4 ?side5 ?side6 A7.out).mono ?_
 (case side1 => exact Kd.C_below HR0_0.out (be w))
 (case side2 => exact HC0_0.out)
 (case side3 => exact Kd.C_below HR0_1.out (be w))
 (case side4 => exact HC0_1.out)
 (case side5 => exact Kd.C_below HR1.out (be w))
 (case side6 => exact HC1.out)
 rintro e w18 ⟨rfl, hb⟩
 refine ⟨_, rfl, ?_⟩
 replace BK263 := As.mk (blk_below (bx BK263.out) hb)
 replace BK265 := As.mk (blk_below (bx BK265.out) hb)
 replace HB := As.mk (below_step (be w) hb)
 (try clear hb)
 (try clear hb2)
 (try clear hk)
 (try clear hi)
 refine hK.out _ _ ⟨(blk_cell BK263.out 0).trans rfl, (blk_cell BK263.out 1).trans rfl, (blk_cell BK265.out 0).trans rfl, (blk_cell BK265.out 1).trans rfl, (blk_cell BK265.out 2).trans rfl, (blk_cell BK265.out 3).trans rfl, (ce HB.out hw266_0 :), (ce HB.out hw268_0 :)⟩ (fun hHeld => ?_)
 clear hK K
 refine norm_ (a' := ?_) ?_ ?_
 rotate_left
 ·
  show Act.put _ (some 19) _ = _
  simp only [pk, i64_w, i32_w]
  rfl
 refine pure_ (i := 7) (N := some 20) (v := ?_) (a' := ?_) #[I, I, I, I, I, I, I, I, O, O, O, O, O, O, O, O, O, O, O] rfl rfl (any_of HT_.out (by kernel_rfl)) (fun _ _ _ h => h) (Or.inl ⟨by rfl, ?_⟩) ?_ ?_
 rotate_left; · intro w'; go_simp; with_reducible rfl
 rotate_left; · simp only [pk, i64_w, i32_w]; rfl
 refine pure_ (i := 8) (N := some 21) (v := ?_) (a' := ?_) #[I, I, I, I, I, I, I, I, I, O, O, O, O, O, O, O, O, O, O] rfl rfl (any_of HT_.out (by kernel_rfl)) (fun _ _ _ h => h) (Or.inl ⟨by rfl, ?_⟩) ?_ ?_
 rotate_left; · intro w'; go_simp; with_reducible rfl
 rotate_left; · simp only [pk, i64_w, i32_w]; rfl
 refine pure_ (i := 10) (N := some 23) (v := ?_) (a' := ?_) #[I, I, I, I, I, I, I, I, I, O, I, O, O, O, O, O, O, O, O] rfl rfl (any_of HT_.out (by kernel_rfl)) (fun _ _ _ h => h) (Or.inl ⟨by rfl, ?_⟩) ?_ ?_
 rotate_left; · intro w'; go_simp; with_reducible rfl
 rotate_left; · simp only [pk, i64_w, i32_w]; rfl
 refine pure_ (i := 11) (N := some 24) (v := ?_) (a' := ?_) #[I, I, I, I, I, I, I, I, I, O, I, I, O, O, O, O, O, O, O] rfl rfl (any_of HT_.out (by kernel_rfl)) (fun _ _ _ h => h) (Or.inl ⟨by rfl, ?_⟩) ?_ ?_
 rotate_left; · intro w'; go_simp; with_reducible rfl
 rotate_left; · simp only [pk, i64_w, i32_w]; rfl
 refine take_ (i := 9) (N := some 22) (v := ?_) (a' := ?_) #[I, I, I, I, I, I, I, I, I, I, I, I, O, O, O, O, O, O, O] rfl rfl (take_ofW HT_.out HW_.out (by kernel_rfl)) (fun _ _ _ h => h) (Or.inl ⟨by rfl, ?_⟩) hHeld ?_ ?_
 rotate_left; · rintro w' ⟨s0, s1, s2, s3, s4, s5, s6, s7⟩; go_simp; with_reducible rfl
 rotate_left; · simp only [pk, i64_w, i32_w]; rfl
 refine take_ (i := 12) (N := some 25) (v := ?_) (a' := ?_) #[I, I, I, I, I, I, I, I, I, I, I, I, I, O, O, O, O, O, O] rfl rfl (take_ofW HT_.out HW_.out (by kernel_rfl)) (fun _ _ _ h => h) (Or.inl ⟨by rfl, ?_⟩) hHeld ?_ ?_
 rotate_left; · rintro w' ⟨s0, s1, s2, s3, s4, s5, s6, s7⟩; go_simp; with_reducible rfl
 rotate_left; · simp only [pk, i64_w, i32_w]; rfl
 refine pure_ (i := 13) (N := some 26) (v := ?_) (a' := ?_) #[I, I, I, I, I, I, I, I, I, I, I, I, I, I, O, O, O, O, O] rfl rfl (any_of HT_.out (by kernel_rfl)) (fun _ _ _ h => h) (Or.inl ⟨by rfl, ?_⟩) ?_ ?_
 rotate_left; · intro w'; go_simp; with_reducible rfl
 rotate_left; · simp only [pk, i64_w, i32_w]; rfl
 refine take_ (i := 14) (N := some 27) (v := ?_) (a' := ?_) #[I, I, I, I, I, I, I, I, I, I, I, I, I, I, I, O, O, O, O] rfl rfl (take_ofW HT_.out HW_.out (by kernel_rfl)) (fun _ _ _ h => h) (Or.inl ⟨by rfl, ?_⟩) hHeld ?_ ?_
 rotate_left; · rintro w' ⟨s0, s1, s2, s3, s4, s5, s6, s7⟩; go_simp; with_reducible rfl
 rotate_left; · simp only [pk, i64_w, i32_w]; rfl
 refine one_ (i := 15) (N := some 28) #[I, I, I, I, I, I, I, I, I, I, I, I, I, I, I, I, O, O, O] rfl rfl (one_of HT_.out (by kernel_rfl)) (by decide) (fun K hK => ?_)
 refine goes_ Tryd.func74 (by kernel_rfl) rfl #[.agg #[.slice (some ad264) l0_0.length c0_0, .slice A0_1 l0_1.length c0_1], .slice A1 l1.length c1, .int .i64 (rd ((rd_T88 l0_0 a2).f3) 1)] (by rfl) rfl rfl (by (try simp only [lm]); first | done | rfl | (simp only [List.length_drop, List.length_take]; rfl)) ?_
 with_reducible refine (ih_spec_l08Type k (by omega) _ _ l0_0 _ _ l0_1 _ _ l1 (rd ((rd_T88 l0_0 a2).f3) 1) t269 _ ?side1 ?side2 ?side3 ?side4 ?side5 ?side6 A10.out).mono ?_
 (case side1 => exact Kd.C_below HR0_0.out (be w))
 (case side2 => exact HC0_0.out)
 (case side3 => exact Kd.C_below HR0_1.out (be w))
 (case side4 => exact HC0_1.out)
 (case side5 => exact Kd.C_below HR1.out (be w))
 (case side6 => exact HC1.out)
 rintro e w19 ⟨rfl, hb⟩
 refine ⟨_, rfl, ?_⟩
 replace BK263 := As.mk (blk_below (bx BK263.out) hb)
 replace BK265 := As.mk (blk_below (bx BK265.out) hb)
 replace HB := As.mk (below_step (be w) hb)
 (try clear hb)
 (try clear hb2)
 (try clear hk)
 (try clear hi)
 refine hK.out _ _ ⟨(blk_cell BK263.out 0).trans rfl, (blk_cell BK263.out 1).trans rfl, (blk_cell BK265.out 0).trans rfl, (blk_cell BK265.out 1).trans rfl, (blk_cell BK265.out 2).trans rfl, (blk_cell BK265.out 3).trans rfl, (ce HB.out hw266_0 :), (ce HB.out hw268_0 :)⟩ (fun hHeld => ?_)
 clear hK K
 refine norm_ (a' := ?_) ?_ ?_
 rotate_left
 ·
  show Act.put _ (some 28) _ = _
  simp only [pk, i64_w, i32_w]
  rfl
 refine pure_ (i := 16) (N := some 29) (v := ?_) (a' := ?_) #[I, I, I, I, I, I, I, I, I, I, I, I, I, I, I, I, I, O, O] rfl rfl (any_of HT_.out (by kernel_rfl)) (fun _ _ _ h => h) (Or.inl ⟨by rfl, ?_⟩) ?_ ?_
 rotate_left; · intro w'; go_simp; with_reducible rfl
 rotate_left; · simp only [pk, i64_w, i32_w]; rfl
 refine pure_ (i := 17) (N := some 30) (v := ?_) (a' := ?_) #[I, I, I, I, I, I, I, I, I, I, I, I, I, I, I, I, I, I, O] rfl rfl (any_of HT_.out (by kernel_rfl)) (fun _ _ _ h => h) (Or.inl ⟨by rfl, ?_⟩) ?_ ?_
 rotate_left; · intro w'; go_simp; with_reducible rfl
 rotate_left; · simp only [pk, i64_w, i32_w]; rfl
 refine pure_ (i := 18) (N := some 6) (v := ?_) (a' := ?_) #[I, I, I, I, I, I, I, I, I, I, I, I, I, I, I, I, I, I, I] rfl rfl (any_of HT_.out (by kernel_rfl)) (fun _ _ _ h => h) (Or.inl ⟨by rfl, ?_⟩) ?_ ?_
 rotate_left; · intro w'; go_simp; with_reducible rfl
 rotate_left; · simp only [pk, i64_w, i32_w]; rfl
 refine done_ (done_of HT_.out (by kernel_rfl)) ?_
 try go_wp2
 go_ret
 exact (ew (be w))
def spec_l08Sig.T3 : Bool × List (List Nat × List Nat) := (true, [([], []), ([0], [0]), ([1], [1]), ([2], [2]), ([3, 2], [2, 3]), ([2], [2]), ([4, 5, 2], [2, 4, 5]), ([6, 2], [2, 6]), ([7, 2], [2, 7]), ([8, 2], [2, 8]), ([2], [2]), ([10, 2], [2, 10]), ([11, 2], [2, 11]), ([9, 12, 2], [2, 9, 12]), ([2, 13], [2, 13])])
def spec_l08Sig.B3 : List Nat := [0, 1, 3, 7, 15, 7, 63, 127, 255, 511, 7, 1031, 3079, 8191, 16383]
theorem spec_l08Sig.tab3 : rtab .any (opsOf Tryd.f100 3) = spec_l08Sig.T3 := by kernel_rfl
theorem spec_l08Sig.bits3 : waitsOk spec_l08Sig.T3.2 spec_l08Sig.B3 = true := by kernel_rfl
def spec_l08Sig.T8 : Bool × List (List Nat × List Nat) := (true, [([], []), ([], []), ([], []), ([2], [2]), ([], []), ([3, 4], [3, 4]), ([5], [5]), ([0, 1, 6], [0, 1, 6]), ([], []), ([8], [8]), ([], []), ([9, 10], [9, 10]), ([11], [11]), ([12], [12]), ([], []), ([13, 14], [13, 14]), ([15], [15]), ([16], [16]), ([7, 17], [7, 17])])
def spec_l08Sig.B8 : List Nat := [0, 0, 0, 4, 0, 28, 60, 127, 0, 256, 0, 1792, 3840, 7936, 0, 32512, 65280, 130816, 262143]
theorem spec_l08Sig.tab8 : rtab .any (opsOf Tryd.f100 8) = spec_l08Sig.T8 := by kernel_rfl
theorem spec_l08Sig.bits8 : waitsOk spec_l08Sig.T8.2 spec_l08Sig.B8 = true := by kernel_rfl
set_option maxHeartbeats 8000000 in
set_option maxRecDepth 100000 in
theorem spec_l08Sig.callsO (k : Nat) (ih_spec_l08Two : ∀ m_, m_ < k → spec_l08Two.C m_) (ih : ∀ m_, m_ < k → spec_l08Sig.C m_) (ih_spec_l08Type : ∀ m_, m_ < k → spec_l08Type.C m_) : spec_l08Sig.C k := by
 intro A0_0 c0_0 l0_0 P0_1_ A0_1 c0_1 l0_1 A1 c1 l1 a2 r1 r2 r3 r4 r5 r6 w hr0_0 hc0_0 hs0_1 hr1 hc1 h
 cases k with
 | zero => exact absurd h (by simp [spec_l08Sig.f])
 | succ k =>
 simp only [spec_l08Sig.f] at h
 have hu43 := Tryd.underlying43
 have hu125 := Tryd.underlying125
 have hu88 := Tryd.underlying88
 have HR0_0 := As.mk hr0_0
 have HC0_0 := As.mk hc0_0
 clear hr0_0 hc0_0
 have HO0_1 := As.mk (show Kd.V k125 125 w w.heap.size (fun k_ => (P0_1_ k_ ∨ w.heap.size ≤ k_)) (.slice A0_1 l0_1.length c0_1) l0_1 from Kd.V_mono hs0_1 (fun k_ hk => .inl hk))
 have HR1 := As.mk hr1
 have HC1 := As.mk hc1
 clear hr1 hc1
 have HB := As.mk (Below.refl w.heap.size w)
 have H : (if 0 ≤ a2 then (if a2 < (l0_0.length : Int) then ((spec_FnAt.f k l0_0 l0_1 ((rd_T88 l0_0 a2).f2)).bind fun t274 => (if t274 < 0 then (spec_l08Sig.j0 k l1 t274 true l0_0 l0_1 ((rd_T88 l0_0 a2).f0) ((rd_T88 l0_0 a2).f1) ((rd_T88 l0_0 a2).f2) ((rd_T88 l0_0 a2).f3)) else (if 0 ≤ t274 then (if t274 < (l0_1.length : Int) then (spec_l08Sig.j0 k l1 t274 ((((rd_T125 l0_1 t274).f1).length : Int) != (((rd_T88 l0_0 a2).f3).length : Int)) l0_0 l0_1 ((rd_T88 l0_0 a2).f0) ((rd_T88 l0_0 a2).f1) ((rd_T88 l0_0 a2).f2) ((rd_T88 l0_0 a2).f3)) else (none)) else (none)))) else (none)) else (none)) = some (r1, r2, r3, r4, r5, r6) := h
 clear h
 by_cases c4 : 0 ≤ a2
 rotate_left; · rw [if_neg c4] at H; exact absurd H (by simp)

 rw [if_pos c4] at H
 have c4b0 : decide (0 ≤ a2) = true := decide_eq_true c4
 clear c4
 by_cases c5 : a2 < (l0_0.length : Int)
 rotate_left; · rw [if_neg c5] at H; exact absurd H (by simp)
 rw [if_pos c5] at H
 have c5b0 : decide (a2 < (l0_0.length : Int)) = true := decide_eq_true c5
 clear c5
 obtain ⟨t274, A60, H⟩ := Option.bind_eq_some_iff.mp H
 try dsimp only at H
 have A6 := As.mk A60
 clear A60
 have HC7 := As.mk H
 clear H
 go_enter Tryd.func100, Tryd.ntmps100
 go_upto_region 3 with (first | ((with_reducible refine gate_dst (N := 3) rfl ?_); (try (refine gate_guard (by rfl) ?_; dsimp only)); refine box_event ?hg (N := 3) ?hd (cs := #[.slice A0_0 l0_0.length c0_0, .slice A0_1 l0_1.length c0_1]) (t := 43) ?hr ?_; (case hd => rfl); (case hg => rfl); (case hr => first | (go_simp; done) | (go_simp; rfl)); intro gb270 hg w8 hbox hb; replace HO0_1 := As.mk (Kd.V_below (Kd.V_elderB (by (with_reducible repeat (first | apply Kd.V_alloc | apply Kd.V_drewN | apply Kd.V_drew)); exact HO0_1.out) gb270 (Nat.le_of_eq hg.symm)) hb); have BK270 := As.mk (hbox); have GW270 := As.mk (gs w hg); have GE270 := As.mk (gs w hg); replace HB := As.mk (below_step (be w) hb); clear hb hbox hg) | ((with_reducible refine gate_dst (N := 6) rfl ?_); (try (refine gate_guard (by rfl) ?_; dsimp only)); refine box_event ?hg (N := 6) ?hd (cs := #[.string (⟨#[]⟩ : ByteArray), .slice none 0 0, .int .i64 0, .int .i64 0, .int .i64 0]) (t := 125) ?hr ?_; (case hd => rfl); (case hg => rfl); (case hr => first | (go_simp; done) | (go_simp; rfl)); intro gb271 hg w9 hbox hb; replace HO0_1 := As.mk (Kd.V_below (Kd.V_elderB (by (with_reducible repeat (first | apply Kd.V_alloc | apply Kd.V_drewN | apply Kd.V_drew)); exact HO0_1.out) gb271 (Nat.le_of_eq hg.symm)) hb); have BK271 := As.mk (hbox); have GW271 := As.mk (gs w hg); have GE271 := As.mk (gs w hg); replace HB := As.mk (below_step (be w) hb); have NB270_271 := As.mk (nl hg (bx BK270.out)); have NB271_270 := As.mk (ng hg (bx BK270.out)); replace BK270 := As.mk (blk_below (bx BK270.out) hb); clear hb hbox hg; have hnb10 := NB270_271.out; have hnc10 := NB271_270.out; obtain ⟨hcz11_0, hcz11_1, hfz11_0, hfz11_1⟩ := cl2 BK270.out; have p272 : 0 ≤ (a2 : Int) := od; have q272 : a2 < (l0_0.length : Int) := od; obtain ⟨ad272, A272_3, c272_3, e272, hx272_0, hx272_1, hx272_2, hx272_3, hl272_3, hi272_3⟩ := at_T88 HR0_0.out a2 p272 q272; cases e272; replace hx272_0 := ce HB.out hx272_0; replace hx272_1 := ce HB.out hx272_1; replace hx272_2 := ce HB.out hx272_2; replace hx272_3 := ce HB.out hx272_3; have HR272_3 := As.mk hi272_3; have HC272_3 := As.mk hl272_3; clear hi272_3 hl272_3; replace p272 := eq_true p272; replace q272 := eq_true q272) | ((with_reducible refine gate_dst (N := 8) rfl ?_); (try (refine gate_guard (by rfl) ?_; dsimp only)); refine box_event ?hg (N := 8) ?hd (cs := #[.int .i64 0, .int .i64 0, .string (⟨#[]⟩ : ByteArray), .slice none 0 0]) (t := 88) ?hr ?_; (case hd => rfl); (case hg => rfl); (case hr => first | (go_simp; done) | (go_simp; rfl)); intro gb273 hg w12 hbox hb; replace HO0_1 := As.mk (Kd.V_below (Kd.V_elderB (by (with_reducible repeat (first | apply Kd.V_alloc | apply Kd.V_drewN | apply Kd.V_drew)); exact HO0_1.out) gb273 (Nat.le_of_eq hg.symm)) hb); have BK273 := As.mk (hbox); have GW273 := As.mk (gs w hg); have GE273 := As.mk (gs w hg); replace HB := As.mk (below_step (be w) hb); have NB270_273 := As.mk (nl hg (bx BK270.out)); have NB273_270 := As.mk (ng hg (bx BK270.out)); replace BK270 := As.mk (blk_below (bx BK270.out) hb); have NB271_273 := As.mk (nl hg (bx BK271.out)); have NB273_271 := As.mk (ng hg (bx BK271.out)); replace BK271 := As.mk (blk_below (bx BK271.out) hb); clear hb hbox hg; have hnb13 := NB273_270.out; have hnc13 := NB270_273.out; have hnb14 := NB273_271.out; have hnc14 := NB271_273.out; obtain ⟨hcz15_0, hcz15_1, hcz15_2, hcz15_3, hfz15_0, hfz15_1, hfz15_2, hfz15_3⟩ := cl4 BK273.out; obtain ⟨hcz16_0, hcz16_1, hfz16_0, hfz16_1⟩ := cl2 BK270.out) | ((with_reducible refine gate_callee (f := 115) rfl ?_); refine goesL_ (some 19) rfl rfl Tryd.func115 (by kernel_rfl) rfl #[.agg #[.slice (some ad272) l0_0.length c0_0, .slice A0_1 l0_1.length c0_1], .string ((rd_T88 l0_0 a2).f2)] rfl (by (try simp only [lm]); first | done | rfl | (simp only [List.length_drop, List.length_take]; rfl)) ?_; (with_reducible refine (spec_FnAt.calls k _ _ l0_0 _ _ l0_1 ((rd_T88 l0_0 a2).f2) t274 _ ?side1 ?side2 ?side3 ?side4 A6.out).mono ?_); (case side1 => exact Kd.C_below HR0_0.out (be w)); (case side2 => exact HC0_0.out); (case side3 => refine (Kd.V_reads' (e := 125) (base := w.heap.size) (ok := fun k_ => ((((P0_1_ k_ ∨ w.heap.size ≤ k_) ∧ k_ ≠ gb270) ∧ k_ ≠ gb271) ∧ k_ ≠ gb273)) (n := l0_1.length) (c := c0_1) ?_).2.2; exact (by (with_reducible repeat (first | apply Kd.V_alloc | apply Kd.V_drewN | apply Kd.V_drew)); exact (Kd.V_mono (Kd.V_far (p := ⟨gb273, 3, none⟩) (Kd.V_far (p := ⟨gb273, 2, none⟩) (Kd.V_far (p := ⟨gb273, 1, none⟩) (Kd.V_far (p := ⟨gb273, 0, none⟩) (Kd.V_mono HO0_1.out (fun k_ hk => (⟨hk, hk.2⟩ : _ ∧ k_ ≠ gb273))) (fun _ hk => hk.2) (.int .i64 ((rd_T88 l0_0 a2).f0))) (fun _ hk => hk.2) (.int .i64 ((rd_T88 l0_0 a2).f1))) (fun _ hk => hk.2) (.string ((rd_T88 l0_0 a2).f2))) (fun _ hk => hk.2) (.slice A272_3 ((rd_T88 l0_0 a2).f3).length c272_3)) (fun _ h_ => h_.1)))); (case side4 => exact (Kd.V_reads' HO0_1.out).2.1); rintro e w17 ⟨rfl, hb⟩; refine ⟨_, rfl, ?_⟩; replace HO0_1 := As.mk (Kd.V_below (by (with_reducible repeat (first | apply Kd.V_alloc | apply Kd.V_drewN | apply Kd.V_drew)); exact (Kd.V_mono (Kd.V_far (p := ⟨gb273, 3, none⟩) (Kd.V_far (p := ⟨gb273, 2, none⟩) (Kd.V_far (p := ⟨gb273, 1, none⟩) (Kd.V_far (p := ⟨gb273, 0, none⟩) (Kd.V_mono HO0_1.out (fun k_ hk => (⟨hk, hk.2⟩ : _ ∧ k_ ≠ gb273))) (fun _ hk => hk.2) (.int .i64 ((rd_T88 l0_0 a2).f0))) (fun _ hk => hk.2) (.int .i64 ((rd_T88 l0_0 a2).f1))) (fun _ hk => hk.2) (.string ((rd_T88 l0_0 a2).f2))) (fun _ hk => hk.2) (.slice A272_3 ((rd_T88 l0_0 a2).f3).length c272_3)) (fun _ h_ => h_.1))) hb); replace BK270 := As.mk (blk_below (g := gb270) (o := .cells #[.slice (some ad272) l0_0.length c0_0, .slice A0_1 l0_1.length c0_1] 43 (0, 0)) (by refine pl ?_; refine blk_far ?_ NB270_273.out _; refine pl ?_; refine blk_far ?_ NB270_273.out _; refine pl ?_; refine blk_far ?_ NB270_273.out _; refine pl ?_; refine blk_far ?_ NB270_273.out _; exact bx BK270.out) hb); replace BK271 := As.mk (blk_below (g := gb271) (o := .cells #[.string (⟨#[]⟩ : ByteArray), .slice none 0 0, .int .i64 0, .int .i64 0, .int .i64 0] 125 (0, 0)) (by refine pl ?_; refine blk_far ?_ NB271_273.out _; refine pl ?_; refine blk_far ?_ NB271_273.out _; refine pl ?_; refine blk_far ?_ NB271_273.out _; refine pl ?_; refine blk_far ?_ NB271_273.out _; exact bx BK271.out) hb); replace BK273 := As.mk (blk_below (g := gb273) (o := .cells #[.int .i64 ((rd_T88 l0_0 a2).f0), .int .i64 ((rd_T88 l0_0 a2).f1), .string ((rd_T88 l0_0 a2).f2), .slice A272_3 ((rd_T88 l0_0 a2).f3).length c272_3] 88 (0, 0)) (by refine pl ?_; refine blk_put (cs := #[.int .i64 ((rd_T88 l0_0 a2).f0), .int .i64 ((rd_T88 l0_0 a2).f1), .string ((rd_T88 l0_0 a2).f2), .slice none 0 0]) ?_ 3 _ rfl; refine pl ?_; refine blk_put (cs := #[.int .i64 ((rd_T88 l0_0 a2).f0), .int .i64 ((rd_T88 l0_0 a2).f1), .string (⟨#[]⟩ : ByteArray), .slice none 0 0]) ?_ 2 _ rfl; refine pl ?_; refine blk_put (cs := #[.int .i64 ((rd_T88 l0_0 a2).f0), .int .i64 0, .string (⟨#[]⟩ : ByteArray), .slice none 0 0]) ?_ 1 _ rfl; refine pl ?_; refine blk_put (cs := #[.int .i64 0, .int .i64 0, .string (⟨#[]⟩ : ByteArray), .slice none 0 0]) ?_ 0 _ rfl; exact bx BK273.out) hb); replace HB := As.mk (below_step (be w) hb); (try clear hb); (try clear hb2); (try clear hk); (try clear hi)))
 (try simp only [pk])
 go_cut [34] (fun v34 wc => ∃ (kq : Nat) (x34_6 : Bool), v34 = .bool x34_6 ∧ As (spec_l08Sig.j0 kq l1 t274 x34_6 l0_0 l0_1 ((rd_T88 l0_0 a2).f0) ((rd_T88 l0_0 a2).f1) ((rd_T88 l0_0 a2).f2) ((rd_T88 l0_0 a2).f3) = some (r1, r2, r3, r4, r5, r6)) ∧ As (kq ≤ k) ∧ As (Kd.V k125 125 wc w.heap.size (fun k_ => (P0_1_ k_ ∨ w.heap.size ≤ k_) ∧ k_ ≠ gb270 ∧ k_ ≠ gb271 ∧ k_ ≠ gb273) (.slice A0_1 l0_1.length c0_1) l0_1) ∧ As (wc.heap[gb270]? = some (.cells #[(.slice (some ad272) l0_0.length c0_0), (.slice A0_1 l0_1.length c0_1)] 43 (0, 0))) ∧ As (wc.heap[gb271]? = some (.cells #[.string (⟨#[]⟩ : ByteArray), (.slice none 0 0), .int .i64 0, .int .i64 0, .int .i64 0] 125 (0, 0))) ∧ As (wc.heap[gb273]? = some (.cells #[.int .i64 ((rd_T88 l0_0 a2).f0), .int .i64 ((rd_T88 l0_0 a2).f1), .string ((rd_T88 l0_0 a2).f2), (.slice A272_3 ((rd_T88 l0_0 a2).f3).length c272_3)] 88 (0, 0))) ∧ As (Below w.heap.size w wc))
 case first =>
  have H := HC7.out
  clear HC7
  by_cases c18 : t274 < 0
  ·
   rw [if_pos c18] at H
   have c18b0 : decide (t274 < 0) = true := decide_eq_true c18
   clear c18
   (first | rw [c18b0] | (simp only [i64_w, i32_w]; rw [c18b0]) | skip)
   have H' := As.mk H
   clear H
   try go_wp2
   replace HO0_1 := As.mk (Kd.V_drew HO0_1.out)
   replace BK270 := As.mk (blk_drew BK270.out)
   replace BK271 := As.mk (blk_drew BK271.out)
   replace BK273 := As.mk (blk_drew BK273.out)
   replace HB := As.mk (below_drew1 HB.out)
   refine start_ (n := 15) (S := fun w' => True) (ds := []) #[O, O, O, O, O, O, O, O, O, O, O, O, O, O, O] (by kernel_rfl) rfl rfl trivial (fun hHeld => ?_); refine with_tabW spec_l08Sig.tab3 spec_l08Sig.bits3 (fun HT_ HW_ => ?_)
   generalize w17.drew = w19 at HO0_1 BK270 BK271 BK273 HB hHeld ⊢
   refine pure_ (i := 0) (N := some 20) (v := ?_) (a' := ?_) #[I, O, O, O, O, O, O, O, O, O, O, O, O, O, O] rfl rfl (any_of HT_.out (by kernel_rfl)) (fun _ _ _ h => h) (Or.inl ⟨by rfl, ?_⟩) ?_ ?_
   rotate_left; · intro w'; go_simp; with_reducible rfl
   rotate_left; · simp only [pk, i64_w, i32_w]; rfl
   refine pure_ (i := 1) (N := some 21) (v := ?_) (a' := ?_) #[I, I, O, O, O, O, O, O, O, O, O, O, O, O, O] rfl rfl (any_of HT_.out (by kernel_rfl)) (fun _ _ _ h => h) (Or.inl ⟨by rfl, ?_⟩) ?_ ?_
   rotate_left; · intro w'; go_simp; with_reducible rfl
   rotate_left; · simp only [pk, i64_w, i32_w]; rfl
   refine pure_ (i := 2) (N := some 22) (v := ?_) (a' := ?_) #[I, I, I, O, O, O, O, O, O, O, O, O, O, O, O] rfl rfl (any_of HT_.out (by kernel_rfl)) (fun _ _ _ h => h) (Or.inl ⟨by rfl, ?_⟩) ?_ ?_
   rotate_left; · intro w'; go_simp; with_reducible rfl
   rotate_left; · simp only [pk, i64_w, i32_w]; rfl
   refine pure_ (i := 3) (N := some 23) (v := undef) (a' := ?_) #[I, I, I, I, O, O, O, O, O, O, O, O, O, O, O] rfl rfl (any_of HT_.out (by kernel_rfl)) (fun _ _ _ h => h) (Or.inr ⟨by rfl, rfl⟩) ?_ ?_
   rotate_left; · simp only [pk, i64_w, i32_w]; rfl
   refine pure_ (i := 4) (N := some 24) (v := undef) (a' := ?_) #[I, I, I, I, I, O, O, O, O, O, O, O, O, O, O] rfl rfl (any_of HT_.out (by kernel_rfl)) (fun _ _ _ h => h) (Or.inr ⟨by rfl, rfl⟩) ?_ ?_
   rotate_left; · simp only [pk, i64_w, i32_w]; rfl
   refine pure_ (i := 5) (N := some 25) (v := undef) (a' := ?_) #[I, I, I, I, I, I, O, O, O, O, O, O, O, O, O] rfl rfl (any_of HT_.out (by kernel_rfl)) (fun _ _ _ h => h) (Or.inr ⟨by rfl, rfl⟩) ?_ ?_
   rotate_left; · simp only [pk, i64_w, i32_w]; rfl
   refine pure_ (i := 6) (N := some 26) (v := undef) (a' := ?_) #[I, I, I, I, I, I, I, O, O, O, O, O, O, O, O] rfl rfl (any_of HT_.out (by kernel_rfl)) (fun _ _ _ h => h) (Or.inr ⟨by rfl, rfl⟩) ?_ ?_
   rotate_left; · simp only [pk, i64_w, i32_w]; rfl
   refine pure_ (i := 7) (N := some 27) (v := undef) (a' := ?_) #[I, I, I, I, I, I, I, I, O, O, O, O, O, O, O] rfl rfl (any_of HT_.out (by kernel_rfl)) (fun _ _ _ h => h) (Or.inr ⟨by rfl, rfl⟩) ?_ ?_
   rotate_left; · simp only [pk, i64_w, i32_w]; rfl
   refine pure_ (i := 8) (N := some 28) (v := undef) (a' := ?_) #[I, I, I, I, I, I, I, I, I, O, O, O, O, O, O] rfl rfl (any_of HT_.out (by kernel_rfl)) (fun _ _ _ h => h) (Or.inr ⟨by rfl, rfl⟩) ?_ ?_
   rotate_left; · simp only [pk, i64_w, i32_w]; rfl
   refine pure_ (i := 9) (N := some 29) (v := undef) (a' := ?_) #[I, I, I, I, I, I, I, I, I, I, O, O, O, O, O] rfl rfl (any_of HT_.out (by kernel_rfl)) (fun _ _ _ h => h) (Or.inr ⟨by rfl, rfl⟩) ?_ ?_
   rotate_left; · simp only [pk, i64_w, i32_w]; rfl
   refine pure_ (i := 10) (N := some 30) (v := undef) (a' := ?_) #[I, I, I, I, I, I, I, I, I, I, I, O, O, O, O] rfl rfl (any_of HT_.out (by kernel_rfl)) (fun _ _ _ h => h) (Or.inr ⟨by rfl, rfl⟩) ?_ ?_
   rotate_left; · simp only [pk, i64_w, i32_w]; rfl
   refine pure_ (i := 11) (N := some 31) (v := undef) (a' := ?_) #[I, I, I, I, I, I, I, I, I, I, I, I, O, O, O] rfl rfl (any_of HT_.out (by kernel_rfl)) (fun _ _ _ h => h) (Or.inr ⟨by rfl, rfl⟩) ?_ ?_
   rotate_left; · simp only [pk, i64_w, i32_w]; rfl
   refine pure_ (i := 12) (N := some 32) (v := undef) (a' := ?_) #[I, I, I, I, I, I, I, I, I, I, I, I, I, O, O] rfl rfl (any_of HT_.out (by kernel_rfl)) (fun _ _ _ h => h) (Or.inr ⟨by rfl, rfl⟩) ?_ ?_
   rotate_left; · simp only [pk, i64_w, i32_w]; rfl
   refine pure_ (i := 13) (N := some 33) (v := undef) (a' := ?_) #[I, I, I, I, I, I, I, I, I, I, I, I, I, I, O] rfl rfl (any_of HT_.out (by kernel_rfl)) (fun _ _ _ h => h) (Or.inr ⟨by rfl, rfl⟩) ?_ ?_
   rotate_left; · simp only [pk, i64_w, i32_w]; rfl
   refine pure_ (i := 14) (N := some 34) (v := ?_) (a' := ?_) #[I, I, I, I, I, I, I, I, I, I, I, I, I, I, I] rfl rfl (any_of HT_.out (by kernel_rfl)) (fun _ _ _ h => h) (Or.inl ⟨by rfl, ?_⟩) ?_ ?_
   rotate_left; · intro w'; go_simp; with_reducible rfl
   rotate_left; · simp only [pk, i64_w, i32_w]; rfl
   refine done_ (done_of HT_.out (by kernel_rfl)) ?_
   try go_wp2
   go_meet
   case rel => exact ⟨_, (true), (by first | rfl | (simp; done) | (simp [*]; done)), H', ⟨by first | omega | exact Nat.le_refl _⟩, ⟨by (with_reducible repeat (first | apply Kd.V_alloc | apply Kd.V_drewN | apply Kd.V_drew)); exact Kd.V_mono HO0_1.out (fun _ hk => ⟨hk.1.1.1, ⟨hk.1.1.2, ⟨hk.1.2, hk.2⟩⟩⟩)⟩, ⟨bx BK270.out⟩, ⟨bx BK271.out⟩, ⟨bx BK273.out⟩, ⟨be w⟩⟩
  rw [if_neg c18] at H
  have c18b0 : decide (t274 < 0) = false := decide_eq_false c18
  clear c18
  (first | rw [c18b0] | (simp only [i64_w, i32_w]; rw [c18b0]) | skip)
  by_cases c20 : 0 ≤ t274
  rotate_left; · rw [if_neg c20] at H; exact absurd H (by simp)
  rw [if_pos c20] at H
  have c20b0 : decide (0 ≤ t274) = true := decide_eq_true c20
  clear c20
  by_cases c21 : t274 < (l0_1.length : Int)
  rotate_left; · rw [if_neg c21] at H; exact absurd H (by simp)
  rw [if_pos c21] at H
  have c21b0 : decide (t274 < (l0_1.length : Int)) = true := decide_eq_true c21
  clear c21
  have H' := As.mk H
  clear H
  try go_wp2
  replace HO0_1 := As.mk (Kd.V_drew HO0_1.out)
  replace BK270 := As.mk (blk_drew BK270.out)
  replace BK271 := As.mk (blk_drew BK271.out)
  replace BK273 := As.mk (blk_drew BK273.out)
  replace HB := As.mk (below_drew1 HB.out)
  have p275 : 0 ≤ (t274 : Int) := od
  have q275 : t274 < (l0_1.length : Int) := od
  obtain ⟨ad275, A275_1, c275_1, e275, hx275_0, hx275_1, hx275_2, hx275_3, hx275_4, hl275_1, hi275_1⟩ := at_T125 (Kd.V_reads' HO0_1.out).2.2 t274 p275 q275
  cases e275
  obtain ⟨ce275, hce275, hMe275, hcc275⟩ := Kd.V_get HO0_1.out z125 t274 p275 (by first | exact q275 | exact of_decide_eq_true (by first | (with_reducible assumption) | assumption) | (have e_ := (Kd.V_reads' HO0_1.out).1; omega))
  obtain ⟨ua275_1, uc275_1, rfl, ul275_1, ge275_1⟩ := k125_openF hMe275
  have hv275_1 := hcc275 1 _ rfl
  rw [add_field _ _ 1 (by omega)] at hv275_1
  replace hv275_1 := Option.some.inj (hv275_1.symm.trans hx275_1)
  injection hv275_1 with hva_ hvn_ hvc_
  rw [hva_] at ge275_1
  rw [hvc_] at ul275_1
  have HL275_1 := As.mk (show Kd.V k147 147 _ w.heap.size _ _ ((rd_T125 l0_1 t274).f1) from Kd.V_mk ul275_1 ge275_1)
  clear hva_ hvn_ hvc_ ge275_1 ul275_1
  clear hcc275 hce275
  have HR275_1 := As.mk hi275_1
  have HC275_1 := As.mk hl275_1
  clear hi275_1 hl275_1
  replace p275 := eq_true p275
  replace q275 := eq_true q275
  refine start_ (n := 15) (S := fun w' => w'.cell? ⟨gb270, 0, none⟩ = some (.slice (some ad272) l0_0.length c0_0) ∧ w'.cell? ⟨gb270, 1, none⟩ = some (.slice (some ad275) l0_1.length c0_1) ∧ w'.cell? ⟨gb273, 0, none⟩ = some (.int .i64 ((rd_T88 l0_0 a2).f0)) ∧ w'.cell? ⟨gb273, 1, none⟩ = some (.int .i64 ((rd_T88 l0_0 a2).f1)) ∧ w'.cell? ⟨gb273, 2, none⟩ = some (.string ((rd_T88 l0_0 a2).f2)) ∧ w'.cell? ⟨gb273, 3, none⟩ = some (.slice A272_3 ((rd_T88 l0_0 a2).f3).length c272_3) ∧ w'.cell? (ad275.add ((t274).toNat * 5)) = some (.string ((rd_T125 l0_1 t274).f0)) ∧ w'.cell? ⟨(ad275.add ((t274).toNat * 5)).block, (ad275.add ((t274).toNat * 5)).off + 1, none⟩ = some (.slice A275_1 ((rd_T125 l0_1 t274).f1).length c275_1) ∧ w'.cell? ⟨(ad275.add ((t274).toNat * 5)).block, (ad275.add ((t274).toNat * 5)).off + 2, none⟩ = some (.int .i64 ((rd_T125 l0_1 t274).f2)) ∧ w'.cell? ⟨(ad275.add ((t274).toNat * 5)).block, (ad275.add ((t274).toNat * 5)).off + 3, none⟩ = some (.int .i64 ((rd_T125 l0_1 t274).f3)) ∧ w'.cell? ⟨(ad275.add ((t274).toNat * 5)).block, (ad275.add ((t274).toNat * 5)).off + 4, none⟩ = some (.int .i64 ((rd_T125 l0_1 t274).f4))) (ds := []) #[O, O, O, O, O, O, O, O, O, O, O, O, O, O, O] (by kernel_rfl) rfl rfl ⟨(blk_cell BK270.out 0).trans rfl, (blk_cell BK270.out 1).trans rfl, (blk_cell BK273.out 0).trans rfl, (blk_cell BK273.out 1).trans rfl, (blk_cell BK273.out 2).trans rfl, (blk_cell BK273.out 3).trans rfl, hx275_0, hx275_1, hx275_2, hx275_3, hx275_4⟩ (fun hHeld => ?_); refine with_tabW spec_l08Sig.tab3 spec_l08Sig.bits3 (fun HT_ HW_ => ?_)
  generalize w17.drew = w22 at HO0_1 BK270 BK271 BK273 HB HL275_1 HR275_1 hx275_0 hx275_1 hx275_2 hx275_3 hx275_4 hHeld ⊢
  refine pure_ (i := 0) (N := some 20) (v := ?_) (a' := ?_) #[I, O, O, O, O, O, O, O, O, O, O, O, O, O, O] rfl rfl (any_of HT_.out (by kernel_rfl)) (fun _ _ _ h => h) (Or.inl ⟨by rfl, ?_⟩) ?_ ?_
  rotate_left; · intro w'; go_simp; with_reducible rfl
  rotate_left; · simp only [pk, i64_w, i32_w]; rfl
  refine pure_ (i := 1) (N := some 21) (v := ?_) (a' := ?_) #[I, I, O, O, O, O, O, O, O, O, O, O, O, O, O] rfl rfl (any_of HT_.out (by kernel_rfl)) (fun _ _ _ h => h) (Or.inl ⟨by rfl, ?_⟩) ?_ ?_
  rotate_left; · intro w'; go_simp; with_reducible rfl
  rotate_left; · simp only [pk, i64_w, i32_w]; rfl
  refine pure_ (i := 2) (N := some 22) (v := ?_) (a' := ?_) #[I, I, I, O, O, O, O, O, O, O, O, O, O, O, O] rfl rfl (any_of HT_.out (by kernel_rfl)) (fun _ _ _ h => h) (Or.inl ⟨by rfl, ?_⟩) ?_ ?_
  rotate_left; · intro w'; go_simp; with_reducible rfl
  rotate_left; · simp only [pk, i64_w, i32_w]; rfl
  refine pure_ (i := 3) (N := some 23) (v := ?_) (a' := ?_) #[I, I, I, I, O, O, O, O, O, O, O, O, O, O, O] rfl rfl (any_of HT_.out (by kernel_rfl)) (fun _ _ _ h => h) (Or.inl ⟨by rfl, ?_⟩) ?_ ?_
  rotate_left; · intro w'; go_simp; with_reducible rfl
  rotate_left; · simp only [pk, i64_w, i32_w]; rfl
  refine pure_ (i := 5) (N := some 25) (v := ?_) (a' := ?_) #[I, I, I, I, O, I, O, O, O, O, O, O, O, O, O] rfl rfl (any_of HT_.out (by kernel_rfl)) (fun _ _ _ h => h) (Or.inl ⟨by rfl, ?_⟩) ?_ ?_
  rotate_left; · intro w'; go_simp; with_reducible rfl
  rotate_left; · simp only [pk, i64_w, i32_w]; rfl
  refine pure_ (i := 10) (N := some 30) (v := ?_) (a' := ?_) #[I, I, I, I, O, I, O, O, O, O, I, O, O, O, O] rfl rfl (any_of HT_.out (by kernel_rfl)) (fun _ _ _ h => h) (Or.inl ⟨by rfl, ?_⟩) ?_ ?_
  rotate_left; · intro w'; go_simp; with_reducible rfl
  rotate_left; · simp only [pk, i64_w, i32_w]; rfl
  refine take_ (i := 4) (N := some 24) (v := ?_) (a' := ?_) #[I, I, I, I, I, I, O, O, O, O, I, O, O, O, O] rfl rfl (take_ofW HT_.out HW_.out (by kernel_rfl)) (fun _ _ _ h => h) (Or.inl ⟨by rfl, ?_⟩) hHeld ?_ ?_
  rotate_left; · rintro w' ⟨s0, s1, s2, s3, s4, s5, s6, s7, s8, s9, s10⟩; go_simp; with_reducible rfl
  rotate_left; · simp only [pk, i64_w, i32_w]; rfl
  refine pure_ (i := 6) (N := some 26) (v := ?_) (a' := ?_) #[I, I, I, I, I, I, I, O, O, O, I, O, O, O, O] rfl rfl (any_of HT_.out (by kernel_rfl)) (fun _ _ _ h => h) (Or.inl ⟨by rfl, ?_⟩) ?_ ?_
  rotate_left; · intro w'; go_simp; with_reducible rfl
  rotate_left; · simp only [pk, i64_w, i32_w]; rfl
  refine pure_ (i := 7) (N := some 27) (v := ?_) (a' := ?_) #[I, I, I, I, I, I, I, I, O, O, I, O, O, O, O] rfl rfl (any_of HT_.out (by kernel_rfl)) (fun _ _ _ h => h) (Or.inl ⟨by rfl, ?_⟩) ?_ ?_
  rotate_left; · intro w'; go_simp; with_reducible rfl
  rotate_left; · simp only [pk, i64_w, i32_w]; rfl
  refine take_ (i := 8) (N := some 28) (v := ?_) (a' := ?_) #[I, I, I, I, I, I, I, I, I, O, I, O, O, O, O] rfl rfl (take_ofW HT_.out HW_.out (by kernel_rfl)) (fun _ _ _ h => h) (Or.inl ⟨by rfl, ?_⟩) hHeld ?_ ?_
  rotate_left; · rintro w' ⟨s0, s1, s2, s3, s4, s5, s6, s7, s8, s9, s10⟩; go_simp; with_reducible rfl
  rotate_left; · simp only [pk, i64_w, i32_w]; rfl
  refine pure_ (i := 9) (N := some 29) (v := ?_) (a' := ?_) #[I, I, I, I, I, I, I, I, I, I, I, O, O, O, O] rfl rfl (any_of HT_.out (by kernel_rfl)) (fun _ _ _ h => h) (Or.inl ⟨by rfl, ?_⟩) ?_ ?_
  rotate_left; · intro w'; go_simp; with_reducible rfl
  rotate_left; · simp only [pk, i64_w, i32_w]; rfl
  refine take_ (i := 11) (N := some 31) (v := ?_) (a' := ?_) #[I, I, I, I, I, I, I, I, I, I, I, I, O, O, O] rfl rfl (take_ofW HT_.out HW_.out (by kernel_rfl)) (fun _ _ _ h => h) (Or.inl ⟨by rfl, ?_⟩) hHeld ?_ ?_
  rotate_left; · rintro w' ⟨s0, s1, s2, s3, s4, s5, s6, s7, s8, s9, s10⟩; go_simp; with_reducible rfl
  rotate_left; · simp only [pk, i64_w, i32_w]; rfl
  refine pure_ (i := 12) (N := some 32) (v := ?_) (a' := ?_) #[I, I, I, I, I, I, I, I, I, I, I, I, I, O, O] rfl rfl (any_of HT_.out (by kernel_rfl)) (fun _ _ _ h => h) (Or.inl ⟨by rfl, ?_⟩) ?_ ?_
  rotate_left; · intro w'; go_simp; with_reducible rfl
  rotate_left; · simp only [pk, i64_w, i32_w]; rfl
  refine pure_ (i := 13) (N := some 33) (v := ?_) (a' := ?_) #[I, I, I, I, I, I, I, I, I, I, I, I, I, I, O] rfl rfl (any_of HT_.out (by kernel_rfl)) (fun _ _ _ h => h) (Or.inl ⟨by rfl, ?_⟩) ?_ ?_
  rotate_left; · intro w'; go_simp; with_reducible rfl
  rotate_left; · simp only [pk, i64_w, i32_w]; rfl
  refine pure_ (i := 14) (N := some 34) (v := ?_) (a' := ?_) #[I, I, I, I, I, I, I, I, I, I, I, I, I, I, I] rfl rfl (any_of HT_.out (by kernel_rfl)) (fun _ _ _ h => h) (Or.inl ⟨by rfl, ?_⟩) ?_ ?_
  rotate_left; · intro w'; go_simp; with_reducible rfl
  rotate_left; · simp only [pk, i64_w, i32_w]; rfl
  refine done_ (done_of HT_.out (by kernel_rfl)) ?_
  try go_wp2
  go_meet
  case rel => exact ⟨_, (((((rd_T125 l0_1 t274).f1).length : Int) != (((rd_T88 l0_0 a2).f3).length : Int))), (by first | rfl | (simp; done) | (simp [*]; done)), H', ⟨by first | omega | exact Nat.le_refl _⟩, ⟨by (with_reducible repeat (first | apply Kd.V_alloc | apply Kd.V_drewN | apply Kd.V_drew)); exact Kd.V_mono HO0_1.out (fun _ hk => ⟨hk.1.1.1, ⟨hk.1.1.2, ⟨hk.1.2, hk.2⟩⟩⟩)⟩, ⟨bx BK270.out⟩, ⟨bx BK271.out⟩, ⟨bx BK273.out⟩, ⟨be w⟩⟩
 case rest =>
  clear HC7
  (try clear c1); (try clear c4); (try clear c4b0); (try clear c5); (try clear c5b0); (try clear hcz11_0); (try clear hcz11_1); (try clear hcz15_0); (try clear hcz15_1); (try clear hcz15_2); (try clear hcz15_3); (try clear hcz16_0); (try clear hcz16_1); (try clear hfz11_0); (try clear hfz11_1); (try clear hfz15_0); (try clear hfz15_1); (try clear hfz15_2); (try clear hfz15_3); (try clear hfz16_0); (try clear hfz16_1); (try clear hx272_0); (try clear hx272_1); (try clear hx272_2); (try clear hx272_3); (try clear p272); (try clear q272)
  obtain ⟨kq, x34_6, rfl, HA, HJ6, HO_271001, BK270, BK271, BK273, HB⟩ := hcut
  cases kq with
  | zero => exact absurd HA.out (by simp [spec_l08Sig.j0])
  | succ kj6 =>
   have H := HA.out
   clear HA
   simp only [spec_l08Sig.j0] at H
   by_cases c23 : x34_6 = true
   ·
    subst c23
    rw [if_pos rfl] at H
    simp only [Option.some.injEq, Prod.mk.injEq] at H
    obtain ⟨rfl, rfl, rfl, rfl, rfl, rfl⟩ := H
    have hnb24 := NB271_270.out
    have hnc24 := NB270_271.out
    have hnb25 := NB271_273.out
    have hnc25 := NB273_271.out
    obtain ⟨hcz26_0, hcz26_1, hcz26_2, hcz26_3, hcz26_4, hfz26_0, hfz26_1, hfz26_2, hfz26_3, hfz26_4⟩ := cl5 BK271.out
    go_wp2
    refine bodyPost_ret (results_ct rfl _ _ gb271 125 #[.string (⟨#[]⟩ : ByteArray), .slice none 0 0, .int .i64 0, .int .i64 0, .int .i64 0] (0, 0) _ rfl (by refine pl ?_; refine blk_put (cs := #[.string (⟨#[]⟩ : ByteArray), .slice none 0 0, .int .i64 0, .int .i64 0, .int .i64 0]) ?_ 4 _ rfl; refine pl ?_; refine blk_put (cs := #[.string (⟨#[]⟩ : ByteArray), .slice none 0 0, .int .i64 0, .int .i64 0, .int .i64 0]) ?_ 3 _ rfl; refine pl ?_; refine blk_put (cs := #[.string (⟨#[]⟩ : ByteArray), .slice none 0 0, .int .i64 0, .int .i64 0, .int .i64 0]) ?_ 2 _ rfl; refine pl ?_; refine blk_put (cs := #[.string (⟨#[]⟩ : ByteArray), .slice none 0 0, .int .i64 0, .int .i64 0, .int .i64 0]) ?_ 1 _ rfl; refine pl ?_; refine blk_put (cs := #[.string (⟨#[]⟩ : ByteArray), .slice none 0 0, .int .i64 0, .int .i64 0, .int .i64 0]) ?_ 0 _ rfl; exact bx BK271.out) Tryd.underlying125 rfl (by kernel_rfl)) rfl ?_
    exact ⟨_, (ew ⟨Kd.V_nil _ _ _ _ _, be w⟩)⟩
   replace c23 := Bool.eq_false_iff.mpr c23
   subst c23
   rw [if_neg (show ¬ (false = true) by decide)] at H
   have H' := As.mk H
   clear H
   go_wp2
   go_loopg [10] kj6 (fun kq v10 w' => ∃ (x10_2 : Int) (x272000_2 : ByteArray) (x272002_2 : Int) (x272003_2 : Int) (x272004_2 : Int), v10 = .int .i64 x10_2 ∧ As (spec_l08Sig.l0 kq l1 t274 x10_2 l0_0 l0_1 ((rd_T88 l0_0 a2).f0) ((rd_T88 l0_0 a2).f1) ((rd_T88 l0_0 a2).f2) ((rd_T88 l0_0 a2).f3) = some (r1, r2, r3, r4, r5, r6)) ∧ As (kq ≤ kj6) ∧ As (Kd.V k125 125 w' w.heap.size (fun k_ => (P0_1_ k_ ∨ w.heap.size ≤ k_) ∧ k_ ≠ gb270 ∧ k_ ≠ gb271 ∧ k_ ≠ gb273) (.slice A0_1 l0_1.length c0_1) l0_1) ∧ As (w'.heap[gb270]? = some (.cells #[(.slice (some ad272) l0_0.length c0_0), (.slice A0_1 l0_1.length c0_1)] 43 (0, 0))) ∧ As (w'.heap[gb271]? = some (.cells #[.string x272000_2, (.slice none 0 0), .int .i64 x272002_2, .int .i64 x272003_2, .int .i64 x272004_2] 125 (0, 0))) ∧ As (w'.heap[gb273]? = some (.cells #[.int .i64 ((rd_T88 l0_0 a2).f0), .int .i64 ((rd_T88 l0_0 a2).f1), .string ((rd_T88 l0_0 a2).f2), (.slice A272_3 ((rd_T88 l0_0 a2).f3).length c272_3)] 88 (0, 0))) ∧ As (Below w.heap.size w w'))
   case atStart => exact ⟨(0), ((⟨#[]⟩ : ByteArray)), (0), (0), (0), (by first | rfl | (simp; done) | (simp [*]; done)), H', ⟨Nat.le_refl _⟩, ⟨by (with_reducible repeat (first | apply Kd.V_alloc | apply Kd.V_drewN | apply Kd.V_drew)); exact HO_271001.out⟩, ⟨bx BK270.out⟩, ⟨bx BK271.out⟩, ⟨bx BK273.out⟩, ⟨be w⟩⟩
   case round =>
    clear H'
    (try clear c1); (try clear c4); (try clear c4b0); (try clear c5); (try clear c5b0); (try clear c23); (try clear hcz11_0); (try clear hcz11_1); (try clear hcz15_0); (try clear hcz15_1); (try clear hcz15_2); (try clear hcz15_3); (try clear hcz16_0); (try clear hcz16_1); (try clear hfz11_0); (try clear hfz11_1); (try clear hfz15_0); (try clear hfz15_1); (try clear hfz15_2); (try clear hfz15_3); (try clear hfz16_0); (try clear hfz16_1); (try clear hx272_0); (try clear hx272_1); (try clear hx272_2); (try clear hx272_3); (try clear p272); (try clear q272)
    obtain ⟨x10_2, x272000_2, x272002_2, x272003_2, x272004_2, rfl, HA, HK2, HO_271001, BK270, BK271, BK273, HB⟩ := hrel
    cases gk with
    | zero => exact absurd HA.out (by simp [spec_l08Sig.l0])
    | succ k2 =>
     have H := HA.out
     clear HA
     simp only [spec_l08Sig.l0] at H
     by_cases c27 : x10_2 < (((rd_T88 l0_0 a2).f3).length : Int)
     rotate_left
     ·
      rw [if_neg c27] at H
      have c27b0 : decide (x10_2 < (((rd_T88 l0_0 a2).f3).length : Int)) = false := decide_eq_false c27
      clear c27
      by_cases c46 : 0 ≤ t274
      rotate_left; · rw [if_neg c46] at H; exact absurd H (by simp)
      rw [if_pos c46] at H
      have c46b0 : decide (0 ≤ t274) = true := decide_eq_true c46
      clear c46
      by_cases c47 : t274 < (l0_1.length : Int)
      rotate_left; · rw [if_neg c47] at H; exact absurd H (by simp)
      rw [if_pos c47] at H
      have c47b0 : decide (t274 < (l0_1.length : Int)) = true := decide_eq_true c47
      clear c47
      simp only [Option.some.injEq, Prod.mk.injEq] at H
      obtain ⟨rfl, rfl, rfl, rfl, rfl, rfl⟩ := H
      have hnb48 := NB273_270.out
      have hnc48 := NB270_273.out
      have hnb49 := NB273_271.out
      have hnc49 := NB271_273.out
      obtain ⟨hcz50_0, hcz50_1, hcz50_2, hcz50_3, hfz50_0, hfz50_1, hfz50_2, hfz50_3⟩ := cl4 BK273.out
      have hnb51 := NB270_271.out
      have hnc51 := NB271_270.out
      obtain ⟨hcz52_0, hcz52_1, hfz52_0, hfz52_1⟩ := cl2 BK270.out
      have p280 : 0 ≤ (t274 : Int) := od
      have q280 : t274 < (l0_1.length : Int) := od
      obtain ⟨ad280, A280_1, c280_1, e280, hx280_0, hx280_1, hx280_2, hx280_3, hx280_4, hl280_1, hi280_1⟩ := at_T125 (Kd.V_reads' HO_271001.out).2.2 t274 p280 q280
      cases e280
      obtain ⟨ce280, hce280, hMe280, hcc280⟩ := Kd.V_get HO_271001.out z125 t274 p280 (by first | exact q280 | exact of_decide_eq_true (by first | (with_reducible assumption) | assumption) | (have e_ := (Kd.V_reads' HO_271001.out).1; omega))
      obtain ⟨ua280_1, uc280_1, rfl, ul280_1, ge280_1⟩ := k125_openF hMe280
      have hv280_1 := hcc280 1 _ rfl
      rw [add_field _ _ 1 (by omega)] at hv280_1
      replace hv280_1 := Option.some.inj (hv280_1.symm.trans hx280_1)
      injection hv280_1 with hva_ hvn_ hvc_
      rw [hva_] at ge280_1
      rw [hvc_] at ul280_1
      have HL280_1 := As.mk (show Kd.V k147 147 _ w.heap.size _ _ ((rd_T125 l0_1 t274).f1) from Kd.V_mk ul280_1 ge280_1)
      clear hva_ hvn_ hvc_ ge280_1 ul280_1
      clear hcc280 hce280
      have HR280_1 := As.mk hi280_1
      have HC280_1 := As.mk hl280_1
      clear hi280_1 hl280_1
      replace p280 := eq_true p280
      replace q280 := eq_true q280
      obtain ⟨hcz53_0, hcz53_1, hcz53_2, hcz53_3, hcz53_4, hfz53_0, hfz53_1, hfz53_2, hfz53_3, hfz53_4⟩ := cl5 BK271.out
      go_wp2
      refine bodyPost_ret (results_ct rfl _ _ gb271 125 #[.string ((rd_T125 l0_1 t274).f0), .slice A280_1 ((rd_T125 l0_1 t274).f1).length c280_1, .int .i64 ((rd_T125 l0_1 t274).f2), .int .i64 ((rd_T125 l0_1 t274).f3), .int .i64 ((rd_T125 l0_1 t274).f4)] (0, 0) _ rfl (by refine pl ?_; refine blk_put (cs := #[.string ((rd_T125 l0_1 t274).f0), .slice A280_1 ((rd_T125 l0_1 t274).f1).length c280_1, .int .i64 ((rd_T125 l0_1 t274).f2), .int .i64 ((rd_T125 l0_1 t274).f3), .int .i64 x272004_2]) ?_ 4 _ rfl; refine pl ?_; refine blk_put (cs := #[.string ((rd_T125 l0_1 t274).f0), .slice A280_1 ((rd_T125 l0_1 t274).f1).length c280_1, .int .i64 ((rd_T125 l0_1 t274).f2), .int .i64 x272003_2, .int .i64 x272004_2]) ?_ 3 _ rfl; refine pl ?_; refine blk_put (cs := #[.string ((rd_T125 l0_1 t274).f0), .slice A280_1 ((rd_T125 l0_1 t274).f1).length c280_1, .int .i64 x272002_2, .int .i64 x272003_2, .int .i64 x272004_2]) ?_ 2 _ rfl; refine pl ?_; refine blk_put (cs := #[.string ((rd_T125 l0_1 t274).f0), .slice none 0 0, .int .i64 x272002_2, .int .i64 x272003_2, .int .i64 x272004_2]) ?_ 1 _ rfl; refine pl ?_; refine blk_put (cs := #[.string x272000_2, .slice none 0 0, .int .i64 x272002_2, .int .i64 x272003_2, .int .i64 x272004_2]) ?_ 0 _ rfl; exact bx BK271.out) Tryd.underlying125 rfl (by kernel_rfl)) rfl ?_
      exact ⟨_, (ew ⟨by (with_reducible repeat (first | apply Kd.V_alloc | apply Kd.V_drewN | apply Kd.V_drew)); exact Kd.V_mono (Kd.V_far (p := ⟨gb271, 4, none⟩) (Kd.V_far (p := ⟨gb271, 3, none⟩) (Kd.V_far (p := ⟨gb271, 2, none⟩) (Kd.V_far (p := ⟨gb271, 1, none⟩) (Kd.V_far (p := ⟨gb271, 0, none⟩) (Kd.V_mono HL280_1.out (fun k_ hk => (⟨hk, hk.2.2.1⟩ : _ ∧ k_ ≠ gb271))) (fun _ hk => hk.2) (.string ((rd_T125 l0_1 t274).f0))) (fun _ hk => hk.2) (.slice A280_1 ((rd_T125 l0_1 t274).f1).length c280_1)) (fun _ hk => hk.2) (.int .i64 ((rd_T125 l0_1 t274).f2))) (fun _ hk => hk.2) (.int .i64 ((rd_T125 l0_1 t274).f3))) (fun _ hk => hk.2) (.int .i64 ((rd_T125 l0_1 t274).f4))) (fun _ hk => hk.1.1), be w⟩)⟩
     rw [if_pos c27] at H
     have c27b0 : decide (x10_2 < (((rd_T88 l0_0 a2).f3).length : Int)) = true := decide_eq_true c27
     clear c27
     by_cases c28 : 0 ≤ x10_2
     rotate_left; · rw [if_neg c28] at H; exact absurd H (by simp)
     rw [if_pos c28] at H
     have c28b0 : decide (0 ≤ x10_2) = true := decide_eq_true c28
     clear c28
     obtain ⟨t277, A290, H⟩ := Option.bind_eq_some_iff.mp H
     try dsimp only at H
     have A29 := As.mk A290
     clear A290
     by_cases c30 : 0 ≤ t274
     rotate_left; · rw [if_neg c30] at H; exact absurd H (by simp)
     rw [if_pos c30] at H
     have c30b0 : decide (0 ≤ t274) = true := decide_eq_true c30
     clear c30
     by_cases c31 : t274 < (l0_1.length : Int)
     rotate_left; · rw [if_neg c31] at H; exact absurd H (by simp)
     rw [if_pos c31] at H
     have c31b0 : decide (t274 < (l0_1.length : Int)) = true := decide_eq_true c31
     clear c31
     by_cases c32 : x10_2 < (((rd_T125 l0_1 t274).f1).length : Int)
     rotate_left; · rw [if_neg c32] at H; exact absurd H (by simp)
     rw [if_pos c32] at H
     have c32b0 : decide (x10_2 < (((rd_T125 l0_1 t274).f1).length : Int)) = true := decide_eq_true c32
     clear c32
     by_cases c33 : t277 = ((rd_T147 ((rd_T125 l0_1 t274).f1) x10_2).f1)
     ·
      rw [if_pos c33] at H
      have c33b0 : (t277 == ((rd_T147 ((rd_T125 l0_1 t274).f1) x10_2).f1)) = true := beq_iff_eq.mpr c33
      have c33b1 : (t277 != ((rd_T147 ((rd_T125 l0_1 t274).f1) x10_2).f1)) = false := bne_eq_false_iff_eq.mpr c33
      clear c33
      have H' := As.mk H
      clear H
      have hnb34 := NB273_270.out
      have hnc34 := NB270_273.out
      have hnb35 := NB273_271.out
      have hnc35 := NB271_273.out
      obtain ⟨hcz36_0, hcz36_1, hcz36_2, hcz36_3, hfz36_0, hfz36_1, hfz36_2, hfz36_3⟩ := cl4 BK273.out
      try go_wp2
      replace HO_271001 := As.mk (Kd.V_drew HO_271001.out)
      replace BK270 := As.mk (blk_drew BK270.out)
      replace BK271 := As.mk (blk_drew BK271.out)
      replace BK273 := As.mk (blk_drew BK273.out)
      replace HB := As.mk (below_drew1 HB.out)
      have p276 : 0 ≤ (x10_2 : Int) := od
      have q276 : x10_2 < (((rd_T88 l0_0 a2).f3).length : Int) := od
      obtain ⟨ad276, e276, hx276_0⟩ := Kd.at_int HR272_3.out x10_2 p276 q276
      have hw276_0 := hx276_0
      cases e276
      replace hx276_0 := ce HB.out hx276_0
      replace p276 := eq_true p276
      replace q276 := eq_true q276
      have p278 : 0 ≤ (t274 : Int) := od
      have q278 : t274 < (l0_1.length : Int) := od
      obtain ⟨ad278, A278_1, c278_1, e278, hx278_0, hx278_1, hx278_2, hx278_3, hx278_4, hl278_1, hi278_1⟩ := at_T125 (Kd.V_reads' HO_271001.out).2.2 t274 p278 q278
      cases e278
      obtain ⟨ce278, hce278, hMe278, hcc278⟩ := Kd.V_get HO_271001.out z125 t274 p278 (by first | exact q278 | exact of_decide_eq_true (by first | (with_reducible assumption) | assumption) | (have e_ := (Kd.V_reads' HO_271001.out).1; omega))
      obtain ⟨ua278_1, uc278_1, rfl, ul278_1, ge278_1⟩ := k125_openF hMe278
      have hv278_1 := hcc278 1 _ rfl
      rw [add_field _ _ 1 (by omega)] at hv278_1
      replace hv278_1 := Option.some.inj (hv278_1.symm.trans hx278_1)
      injection hv278_1 with hva_ hvn_ hvc_
      rw [hva_] at ge278_1
      rw [hvc_] at ul278_1
      have HL278_1 := As.mk (show Kd.V k147 147 _ w.heap.size _ _ ((rd_T125 l0_1 t274).f1) from Kd.V_mk ul278_1 ge278_1)
      clear hva_ hvn_ hvc_ ge278_1 ul278_1
      clear hcc278 hce278
      have HR278_1 := As.mk hi278_1
      have HC278_1 := As.mk hl278_1
      clear hi278_1 hl278_1
      replace p278 := eq_true p278
      replace q278 := eq_true q278
      have p279 : 0 ≤ (x10_2 : Int) := od
      have q279 : x10_2 < (((rd_T125 l0_1 t274).f1).length : Int) := od
      obtain ⟨ad279, e279, hx279_0, hx279_1⟩ := at_T147 (by repeat (first | (with_reducible exact HR278_1.out) | (with_reducible refine Kd.C_alloc ?_ _) | (with_reducible refine Kd.C_drewN ?_ _) | (with_reducible refine Kd.C_drew ?_) | exact HR278_1.out)) x10_2 p279 q279
      cases e279
      replace p279 := eq_true p279
      replace q279 := eq_true q279
      refine start_ (n := 19) (S := fun w' => w'.cell? ⟨gb270, 0, none⟩ = some (.slice (some ad272) l0_0.length c0_0) ∧ w'.cell? ⟨gb270, 1, none⟩ = some (.slice (some ad278) l0_1.length c0_1) ∧ w'.cell? ⟨gb273, 0, none⟩ = some (.int .i64 ((rd_T88 l0_0 a2).f0)) ∧ w'.cell? ⟨gb273, 1, none⟩ = some (.int .i64 ((rd_T88 l0_0 a2).f1)) ∧ w'.cell? ⟨gb273, 2, none⟩ = some (.string ((rd_T88 l0_0 a2).f2)) ∧ w'.cell? ⟨gb273, 3, none⟩ = some (.slice (some ad276) ((rd_T88 l0_0 a2).f3).length c272_3) ∧ w'.cell? (ad276.add (x10_2).toNat) = some (.int .i64 (rd ((rd_T88 l0_0 a2).f3) x10_2)) ∧ w'.cell? (ad278.add ((t274).toNat * 5)) = some (.string ((rd_T125 l0_1 t274).f0)) ∧ w'.cell? ⟨(ad278.add ((t274).toNat * 5)).block, (ad278.add ((t274).toNat * 5)).off + 1, none⟩ = some (.slice (some ad279) ((rd_T125 l0_1 t274).f1).length c278_1) ∧ w'.cell? ⟨(ad278.add ((t274).toNat * 5)).block, (ad278.add ((t274).toNat * 5)).off + 2, none⟩ = some (.int .i64 ((rd_T125 l0_1 t274).f2)) ∧ w'.cell? ⟨(ad278.add ((t274).toNat * 5)).block, (ad278.add ((t274).toNat * 5)).off + 3, none⟩ = some (.int .i64 ((rd_T125 l0_1 t274).f3)) ∧ w'.cell? ⟨(ad278.add ((t274).toNat * 5)).block, (ad278.add ((t274).toNat * 5)).off + 4, none⟩ = some (.int .i64 ((rd_T125 l0_1 t274).f4)) ∧ w'.cell? (ad279.add ((x10_2).toNat * 2)) = some (.string ((rd_T147 ((rd_T125 l0_1 t274).f1) x10_2).f0)) ∧ w'.cell? ⟨(ad279.add ((x10_2).toNat * 2)).block, (ad279.add ((x10_2).toNat * 2)).off + 1, none⟩ = some (.int .i64 ((rd_T147 ((rd_T125 l0_1 t274).f1) x10_2).f1))) (ds := []) #[O, O, O, O, O, O, O, O, O, O, O, O, O, O, O, O, O, O, O] (by kernel_rfl) rfl rfl ⟨(blk_cell BK270.out 0).trans rfl, (blk_cell BK270.out 1).trans rfl, (blk_cell BK273.out 0).trans rfl, (blk_cell BK273.out 1).trans rfl, (blk_cell BK273.out 2).trans rfl, (blk_cell BK273.out 3).trans rfl, (ce HB.out hw276_0 :), hx278_0, hx278_1, hx278_2, hx278_3, hx278_4, hx279_0, hx279_1⟩ (fun hHeld => ?_); refine with_tabW spec_l08Sig.tab8 spec_l08Sig.bits8 (fun HT_ HW_ => ?_)
      generalize wr.drew = w37 at HO_271001 BK270 BK271 BK273 HB HL278_1 HR278_1 hx276_0 hx278_0 hx278_1 hx278_2 hx278_3 hx278_4 hx279_0 hx279_1 hHeld ⊢
      refine pure_ (i := 1) (N := some 44) (v := ?_) (a' := ?_) #[O, I, O, O, O, O, O, O, O, O, O, O, O, O, O, O, O, O, O] rfl rfl (any_of HT_.out (by kernel_rfl)) (fun _ _ _ h => h) (Or.inl ⟨by rfl, ?_⟩) ?_ ?_
      rotate_left; · intro w'; go_simp; with_reducible rfl
      rotate_left; · simp only [pk, i64_w, i32_w]; rfl
      refine pure_ (i := 2) (N := some 45) (v := ?_) (a' := ?_) #[O, I, I, O, O, O, O, O, O, O, O, O, O, O, O, O, O, O, O] rfl rfl (any_of HT_.out (by kernel_rfl)) (fun _ _ _ h => h) (Or.inl ⟨by rfl, ?_⟩) ?_ ?_
      rotate_left; · intro w'; go_simp; with_reducible rfl
      rotate_left; · simp only [pk, i64_w, i32_w]; rfl
      refine pure_ (i := 4) (N := some 47) (v := ?_) (a' := ?_) #[O, I, I, O, I, O, O, O, O, O, O, O, O, O, O, O, O, O, O] rfl rfl (any_of HT_.out (by kernel_rfl)) (fun _ _ _ h => h) (Or.inl ⟨by rfl, ?_⟩) ?_ ?_
      rotate_left; · intro w'; go_simp; with_reducible rfl
      rotate_left; · simp only [pk, i64_w, i32_w]; rfl
      refine pure_ (i := 8) (N := some 51) (v := ?_) (a' := ?_) #[O, I, I, O, I, O, O, O, I, O, O, O, O, O, O, O, O, O, O] rfl rfl (any_of HT_.out (by kernel_rfl)) (fun _ _ _ h => h) (Or.inl ⟨by rfl, ?_⟩) ?_ ?_
      rotate_left; · intro w'; go_simp; with_reducible rfl
      rotate_left; · simp only [pk, i64_w, i32_w]; rfl
      refine pure_ (i := 10) (N := some 53) (v := ?_) (a' := ?_) #[O, I, I, O, I, O, O, O, I, O, I, O, O, O, O, O, O, O, O] rfl rfl (any_of HT_.out (by kernel_rfl)) (fun _ _ _ h => h) (Or.inl ⟨by rfl, ?_⟩) ?_ ?_
      rotate_left; · intro w'; go_simp; with_reducible rfl
      rotate_left; · simp only [pk, i64_w, i32_w]; rfl
      refine pure_ (i := 14) (N := some 57) (v := ?_) (a' := ?_) #[O, I, I, O, I, O, O, O, I, O, I, O, O, O, I, O, O, O, O] rfl rfl (any_of HT_.out (by kernel_rfl)) (fun _ _ _ h => h) (Or.inl ⟨by rfl, ?_⟩) ?_ ?_
      rotate_left; · intro w'; go_simp; with_reducible rfl
      rotate_left; · simp only [pk, i64_w, i32_w]; rfl
      refine take_ (i := 0) (N := some 43) (v := ?_) (a' := ?_) #[I, I, I, O, I, O, O, O, I, O, I, O, O, O, I, O, O, O, O] rfl rfl (take_ofW HT_.out HW_.out (by kernel_rfl)) (fun _ _ _ h => h) (Or.inl ⟨by rfl, ?_⟩) hHeld ?_ ?_
      rotate_left; · rintro w' ⟨s0, s1, s2, s3, s4, s5, s6, s7, s8, s9, s10, s11, s12, s13⟩; go_simp; with_reducible rfl
      rotate_left; · simp only [pk, i64_w, i32_w]; rfl
      refine take_ (i := 3) (N := some 46) (v := ?_) (a' := ?_) #[I, I, I, I, I, O, O, O, I, O, I, O, O, O, I, O, O, O, O] rfl rfl (take_ofW HT_.out HW_.out (by kernel_rfl)) (fun _ _ _ h => h) (Or.inl ⟨by rfl, ?_⟩) hHeld ?_ ?_
      rotate_left; · rintro w' ⟨s0, s1, s2, s3, s4, s5, s6, s7, s8, s9, s10, s11, s12, s13⟩; go_simp; with_reducible rfl
      rotate_left; · simp only [pk, i64_w, i32_w]; rfl
      refine pure_ (i := 5) (N := some 48) (v := ?_) (a' := ?_) #[I, I, I, I, I, I, O, O, I, O, I, O, O, O, I, O, O, O, O] rfl rfl (any_of HT_.out (by kernel_rfl)) (fun _ _ _ h => h) (Or.inl ⟨by rfl, ?_⟩) ?_ ?_
      rotate_left; · intro w'; go_simp; with_reducible rfl
      rotate_left; · simp only [pk, i64_w, i32_w]; rfl
      refine take_ (i := 6) (N := some 49) (v := ?_) (a' := ?_) #[I, I, I, I, I, I, I, O, I, O, I, O, O, O, I, O, O, O, O] rfl rfl (take_ofW HT_.out HW_.out (by kernel_rfl)) (fun _ _ _ h => h) (Or.inl ⟨by rfl, ?_⟩) hHeld ?_ ?_
      rotate_left; · rintro w' ⟨s0, s1, s2, s3, s4, s5, s6, s7, s8, s9, s10, s11, s12, s13⟩; go_simp; with_reducible rfl
      rotate_left; · simp only [pk, i64_w, i32_w]; rfl
      refine take_ (i := 9) (N := some 52) (v := ?_) (a' := ?_) #[I, I, I, I, I, I, I, O, I, I, I, O, O, O, I, O, O, O, O] rfl rfl (take_ofW HT_.out HW_.out (by kernel_rfl)) (fun _ _ _ h => h) (Or.inl ⟨by rfl, ?_⟩) hHeld ?_ ?_
      rotate_left; · rintro w' ⟨s0, s1, s2, s3, s4, s5, s6, s7, s8, s9, s10, s11, s12, s13⟩; go_simp; with_reducible rfl
      rotate_left; · simp only [pk, i64_w, i32_w]; rfl
      refine pure_ (i := 11) (N := some 54) (v := ?_) (a' := ?_) #[I, I, I, I, I, I, I, O, I, I, I, I, O, O, I, O, O, O, O] rfl rfl (any_of HT_.out (by kernel_rfl)) (fun _ _ _ h => h) (Or.inl ⟨by rfl, ?_⟩) ?_ ?_
      rotate_left; · intro w'; go_simp; with_reducible rfl
      rotate_left; · simp only [pk, i64_w, i32_w]; rfl
      refine pure_ (i := 12) (N := some 55) (v := ?_) (a' := ?_) #[I, I, I, I, I, I, I, O, I, I, I, I, I, O, I, O, O, O, O] rfl rfl (any_of HT_.out (by kernel_rfl)) (fun _ _ _ h => h) (Or.inl ⟨by rfl, ?_⟩) ?_ ?_
      rotate_left; · intro w'; go_simp; with_reducible rfl
      rotate_left; · simp only [pk, i64_w, i32_w]; rfl
      refine take_ (i := 13) (N := some 56) (v := ?_) (a' := ?_) #[I, I, I, I, I, I, I, O, I, I, I, I, I, I, I, O, O, O, O] rfl rfl (take_ofW HT_.out HW_.out (by kernel_rfl)) (fun _ _ _ h => h) (Or.inl ⟨by rfl, ?_⟩) hHeld ?_ ?_
      rotate_left; · rintro w' ⟨s0, s1, s2, s3, s4, s5, s6, s7, s8, s9, s10, s11, s12, s13⟩; go_simp; with_reducible rfl
      rotate_left; · simp only [pk, i64_w, i32_w]; rfl
      refine pure_ (i := 15) (N := some 58) (v := ?_) (a' := ?_) #[I, I, I, I, I, I, I, O, I, I, I, I, I, I, I, I, O, O, O] rfl rfl (any_of HT_.out (by kernel_rfl)) (fun _ _ _ h => h) (Or.inl ⟨by rfl, ?_⟩) ?_ ?_
      rotate_left; · intro w'; go_simp; with_reducible rfl
      rotate_left; · simp only [pk, i64_w, i32_w]; rfl
      refine pure_ (i := 16) (N := some 59) (v := ?_) (a' := ?_) #[I, I, I, I, I, I, I, O, I, I, I, I, I, I, I, I, I, O, O] rfl rfl (any_of HT_.out (by kernel_rfl)) (fun _ _ _ h => h) (Or.inl ⟨by rfl, ?_⟩) ?_ ?_
      rotate_left; · intro w'; go_simp; with_reducible rfl
      rotate_left; · simp only [pk, i64_w, i32_w]; rfl
      refine take_ (i := 17) (N := some 60) (v := ?_) (a' := ?_) #[I, I, I, I, I, I, I, O, I, I, I, I, I, I, I, I, I, I, O] rfl rfl (take_ofW HT_.out HW_.out (by kernel_rfl)) (fun _ _ _ h => h) (Or.inl ⟨by rfl, ?_⟩) hHeld ?_ ?_
      rotate_left; · rintro w' ⟨s0, s1, s2, s3, s4, s5, s6, s7, s8, s9, s10, s11, s12, s13⟩; go_simp; with_reducible rfl
      rotate_left; · simp only [pk, i64_w, i32_w]; rfl
      refine one_ (i := 7) (N := some 50) #[I, I, I, I, I, I, I, I, I, I, I, I, I, I, I, I, I, I, O] rfl rfl (one_of HT_.out (by kernel_rfl)) (by decide) (fun K hK => ?_)
      refine goes_ Tryd.func74 (by kernel_rfl) rfl #[.agg #[.slice (some ad272) l0_0.length c0_0, .slice (some ad278) l0_1.length c0_1], .slice A1 l1.length c1, .int .i64 (rd ((rd_T88 l0_0 a2).f3) x10_2)] (by rfl) rfl rfl (by (try simp only [lm]); first | done | rfl | (simp only [List.length_drop, List.length_take]; rfl)) ?_
      with_reducible refine (ih_spec_l08Type k2 (by have := HJ6.out; have := HK2.out; omega) _ _ l0_0 _ _ l0_1 _ _ l1 (rd ((rd_T88 l0_0 a2).f3) x10_2) t277 _ ?side1 ?side2 ?side3 ?side4 ?side5 ?side6 A29.out).mono ?_
      (case side1 => exact Kd.C_below HR0_0.out (be w))
      (case side2 => exact HC0_0.out)
      (case side3 => repeat (first | exact (Kd.V_reads' HO_271001.out).2.2 | (with_reducible refine Kd.C_alloc ?_ _) | (with_reducible refine Kd.C_drewN ?_ _) | (with_reducible refine Kd.C_drew ?_)))
      (case side4 => exact (Kd.V_reads' HO_271001.out).2.1)
      (case side5 => exact Kd.C_below HR1.out (be w))
      (case side6 => exact HC1.out)
      rintro e w38 ⟨rfl, hb⟩
      have HS7_ := (hb.cell (World.block_lt_of_cell? _ _ (hHeld.2.2.2.2.2.2.2.1))).trans (hHeld.2.2.2.2.2.2.2.1)
      have HS8_ := (hb.cell (World.block_lt_of_cell? _ _ (hHeld.2.2.2.2.2.2.2.2.1))).trans (hHeld.2.2.2.2.2.2.2.2.1)
      have HS9_ := (hb.cell (World.block_lt_of_cell? _ _ (hHeld.2.2.2.2.2.2.2.2.2.1))).trans (hHeld.2.2.2.2.2.2.2.2.2.1)
      have HS10_ := (hb.cell (World.block_lt_of_cell? _ _ (hHeld.2.2.2.2.2.2.2.2.2.2.1))).trans (hHeld.2.2.2.2.2.2.2.2.2.2.1)
      have HS11_ := (hb.cell (World.block_lt_of_cell? _ _ (hHeld.2.2.2.2.2.2.2.2.2.2.2.1))).trans (hHeld.2.2.2.2.2.2.2.2.2.2.2.1)
      have HS12_ := (hb.cell (World.block_lt_of_cell? _ _ (hHeld.2.2.2.2.2.2.2.2.2.2.2.2.1))).trans (hHeld.2.2.2.2.2.2.2.2.2.2.2.2.1)
      have HS13_ := (hb.cell (World.block_lt_of_cell? _ _ (hHeld.2.2.2.2.2.2.2.2.2.2.2.2.2))).trans (hHeld.2.2.2.2.2.2.2.2.2.2.2.2.2)
      refine ⟨_, rfl, ?_⟩
      replace HO_271001 := As.mk (Kd.V_below (by (with_reducible repeat (first | apply Kd.V_alloc | apply Kd.V_drewN | apply Kd.V_drew)); exact HO_271001.out) hb)
      replace HL278_1 := As.mk (Kd.V_below (by (with_reducible repeat (first | apply Kd.V_alloc | apply Kd.V_drewN | apply Kd.V_drew)); exact HL278_1.out) hb)
      replace BK270 := As.mk (blk_below (bx BK270.out) hb)
      replace BK271 := As.mk (blk_below (bx BK271.out) hb)
      replace BK273 := As.mk (blk_below (bx BK273.out) hb)
      replace HR278_1 := As.mk (Kd.C_below (by repeat (first | (with_reducible exact HR278_1.out) | (with_reducible refine Kd.C_alloc ?_ _) | (with_reducible refine Kd.C_drewN ?_ _) | (with_reducible refine Kd.C_drew ?_) | exact HR278_1.out)) hb)
      replace HB := As.mk (below_step (be w) hb)
      (try clear hb)
      (try clear hb2)
      (try clear hk)
      (try clear hi)
      refine hK.out _ _ ⟨(blk_cell BK270.out 0).trans rfl, (blk_cell BK270.out 1).trans rfl, (blk_cell BK273.out 0).trans rfl, (blk_cell BK273.out 1).trans rfl, (blk_cell BK273.out 2).trans rfl, (blk_cell BK273.out 3).trans rfl, (ce HB.out hw276_0 :), HS7_, HS8_, HS9_, HS10_, HS11_, HS12_, HS13_⟩ (fun hHeld => ?_)
      clear hK K
      refine norm_ (a' := ?_) ?_ ?_
      rotate_left
      ·
       show Act.put _ (some 50) _ = _
       simp only [pk, i64_w, i32_w]
       rfl
      refine pure_ (i := 18) (N := some 61) (v := ?_) (a' := ?_) #[I, I, I, I, I, I, I, I, I, I, I, I, I, I, I, I, I, I, I] rfl rfl (any_of HT_.out (by kernel_rfl)) (fun _ _ _ h => h) (Or.inl ⟨by rfl, ?_⟩) ?_ ?_
      rotate_left; · intro w'; go_simp; with_reducible rfl
      rotate_left; · simp only [pk, i64_w, i32_w]; rfl
      refine done_ (done_of HT_.out (by kernel_rfl)) ?_
      try go_wp2
      go_roundg k2
      case measure => have := HJ6.out; have := HK2.out; omega
      case rel => exact ⟨(wrap64 (x10_2 + 1)), (x272000_2), (x272002_2), (x272003_2), (x272004_2), (by first | rfl | (simp; done) | (simp [*]; done)), H', ⟨by have := HJ6.out; have := HK2.out; omega⟩, ⟨by (with_reducible repeat (first | apply Kd.V_alloc | apply Kd.V_drewN | apply Kd.V_drew)); exact HO_271001.out⟩, ⟨bx BK270.out⟩, ⟨bx BK271.out⟩, ⟨bx BK273.out⟩, ⟨be w⟩⟩
     rw [if_neg c33] at H
     have c33b0 : (t277 == ((rd_T147 ((rd_T125 l0_1 t274).f1) x10_2).f1)) = false := beq_eq_false_iff_ne.mpr c33
     have c33b1 : (t277 != ((rd_T147 ((rd_T125 l0_1 t274).f1) x10_2).f1)) = true := bne_iff_ne.mpr c33
     simp only [Option.some.injEq, Prod.mk.injEq] at H
     obtain ⟨rfl, rfl, rfl, rfl, rfl, rfl⟩ := H
     have hnb39 := NB273_270.out
     have hnc39 := NB270_273.out
     have hnb40 := NB273_271.out
     have hnc40 := NB271_273.out
     obtain ⟨hcz41_0, hcz41_1, hcz41_2, hcz41_3, hfz41_0, hfz41_1, hfz41_2, hfz41_3⟩ := cl4 BK273.out
     try go_wp2
     replace HO_271001 := As.mk (Kd.V_drew HO_271001.out)
     replace BK270 := As.mk (blk_drew BK270.out)
     replace BK271 := As.mk (blk_drew BK271.out)
     replace BK273 := As.mk (blk_drew BK273.out)
     replace HB := As.mk (below_drew1 HB.out)
     have p276 : 0 ≤ (x10_2 : Int) := od
     have q276 : x10_2 < (((rd_T88 l0_0 a2).f3).length : Int) := od
     obtain ⟨ad276, e276, hx276_0⟩ := Kd.at_int HR272_3.out x10_2 p276 q276
     have hw276_0 := hx276_0
     cases e276
     replace hx276_0 := ce HB.out hx276_0
     replace p276 := eq_true p276
     replace q276 := eq_true q276
     have p278 : 0 ≤ (t274 : Int) := od
     have q278 : t274 < (l0_1.length : Int) := od
     obtain ⟨ad278, A278_1, c278_1, e278, hx278_0, hx278_1, hx278_2, hx278_3, hx278_4, hl278_1, hi278_1⟩ := at_T125 (Kd.V_reads' HO_271001.out).2.2 t274 p278 q278
     cases e278
     obtain ⟨ce278, hce278, hMe278, hcc278⟩ := Kd.V_get HO_271001.out z125 t274 p278 (by first | exact q278 | exact of_decide_eq_true (by first | (with_reducible assumption) | assumption) | (have e_ := (Kd.V_reads' HO_271001.out).1; omega))
     obtain ⟨ua278_1, uc278_1, rfl, ul278_1, ge278_1⟩ := k125_openF hMe278
     have hv278_1 := hcc278 1 _ rfl
     rw [add_field _ _ 1 (by omega)] at hv278_1
     replace hv278_1 := Option.some.inj (hv278_1.symm.trans hx278_1)
     injection hv278_1 with hva_ hvn_ hvc_
     rw [hva_] at ge278_1
     rw [hvc_] at ul278_1
     have HL278_1 := As.mk (show Kd.V k147 147 _ w.heap.size _ _ ((rd_T125 l0_1 t274).f1) from Kd.V_mk ul278_1 ge278_1)
     clear hva_ hvn_ hvc_ ge278_1 ul278_1
     clear hcc278 hce278
     have HR278_1 := As.mk hi278_1
     have HC278_1 := As.mk hl278_1
     clear hi278_1 hl278_1
     replace p278 := eq_true p278
     replace q278 := eq_true q278
     have p279 : 0 ≤ (x10_2 : Int) := od
     have q279 : x10_2 < (((rd_T125 l0_1 t274).f1).length : Int) := od
     obtain ⟨ad279, e279, hx279_0, hx279_1⟩ := at_T147 (by repeat (first | (with_reducible exact HR278_1.out) | (with_reducible refine Kd.C_alloc ?_ _) | (with_reducible refine Kd.C_drewN ?_ _) | (with_reducible refine Kd.C_drew ?_) | exact HR278_1.out)) x10_2 p279 q279
     cases e279
     replace p279 := eq_true p279
     replace q279 := eq_true q279
     refine start_ (n := 19) (S := fun w' => w'.cell? ⟨gb270, 0, none⟩ = some (.slice (some ad272) l0_0.length c0_0) ∧ w'.cell? ⟨gb270, 1, none⟩ = some (.slice (some ad278) l0_1.length c0_1) ∧ w'.cell? ⟨gb273, 0, none⟩ = some (.int .i64 ((rd_T88 l0_0 a2).f0)) ∧ w'.cell? ⟨gb273, 1, none⟩ = some (.int .i64 ((rd_T88 l0_0 a2).f1)) ∧ w'.cell? ⟨gb273, 2, none⟩ = some (.string ((rd_T88 l0_0 a2).f2)) ∧ w'.cell? ⟨gb273, 3, none⟩ = some (.slice (some ad276) ((rd_T88 l0_0 a2).f3).length c272_3) ∧ w'.cell? (ad276.add (x10_2).toNat) = some (.int .i64 (rd ((rd_T88 l0_0 a2).f3) x10_2)) ∧ w'.cell? (ad278.add ((t274).toNat * 5)) = some (.string ((rd_T125 l0_1 t274).f0)) ∧ w'.cell? ⟨(ad278.add ((t274).toNat * 5)).block, (ad278.add ((t274).toNat * 5)).off + 1, none⟩ = some (.slice (some ad279) ((rd_T125 l0_1 t274).f1).length c278_1) ∧ w'.cell? ⟨(ad278.add ((t274).toNat * 5)).block, (ad278.add ((t274).toNat * 5)).off + 2, none⟩ = some (.int .i64 ((rd_T125 l0_1 t274).f2)) ∧ w'.cell? ⟨(ad278.add ((t274).toNat * 5)).block, (ad278.add ((t274).toNat * 5)).off + 3, none⟩ = some (.int .i64 ((rd_T125 l0_1 t274).f3)) ∧ w'.cell? ⟨(ad278.add ((t274).toNat * 5)).block, (ad278.add ((t274).toNat * 5)).off + 4, none⟩ = some (.int .i64 ((rd_T125 l0_1 t274).f4)) ∧ w'.cell? (ad279.add ((x10_2).toNat * 2)) = some (.string ((rd_T147 ((rd_T125 l0_1 t274).f1) x10_2).f0)) ∧ w'.cell? ⟨(ad279.add ((x10_2).toNat * 2)).block, (ad279.add ((x10_2).toNat * 2)).off + 1, none⟩ = some (.int .i64 ((rd_T147 ((rd_T125 l0_1 t274).f1) x10_2).f1))) (ds := []) #[O, O, O, O, O, O, O, O, O, O, O, O, O, O, O, O, O, O, O] (by kernel_rfl) rfl rfl ⟨(blk_cell BK270.out 0).trans rfl, (blk_cell BK270.out 1).trans rfl, (blk_cell BK273.out 0).trans rfl, (blk_cell BK273.out 1).trans rfl, (blk_cell BK273.out 2).trans rfl, (blk_cell BK273.out 3).trans rfl, (ce HB.out hw276_0 :), hx278_0, hx278_1, hx278_2, hx278_3, hx278_4, hx279_0, hx279_1⟩ (fun hHeld => ?_); refine with_tabW spec_l08Sig.tab8 spec_l08Sig.bits8 (fun HT_ HW_ => ?_)
     generalize wr.drew = w42 at HO_271001 BK270 BK271 BK273 HB HL278_1 HR278_1 hx276_0 hx278_0 hx278_1 hx278_2 hx278_3 hx278_4 hx279_0 hx279_1 hHeld ⊢
     refine pure_ (i := 1) (N := some 44) (v := ?_) (a' := ?_) #[O, I, O, O, O, O, O, O, O, O, O, O, O, O, O, O, O, O, O] rfl rfl (any_of HT_.out (by kernel_rfl)) (fun _ _ _ h => h) (Or.inl ⟨by rfl, ?_⟩) ?_ ?_
     rotate_left; · intro w'; go_simp; with_reducible rfl
     rotate_left; · simp only [pk, i64_w, i32_w]; rfl
     refine pure_ (i := 2) (N := some 45) (v := ?_) (a' := ?_) #[O, I, I, O, O, O, O, O, O, O, O, O, O, O, O, O, O, O, O] rfl rfl (any_of HT_.out (by kernel_rfl)) (fun _ _ _ h => h) (Or.inl ⟨by rfl, ?_⟩) ?_ ?_
     rotate_left; · intro w'; go_simp; with_reducible rfl
     rotate_left; · simp only [pk, i64_w, i32_w]; rfl
     refine pure_ (i := 4) (N := some 47) (v := ?_) (a' := ?_) #[O, I, I, O, I, O, O, O, O, O, O, O, O, O, O, O, O, O, O] rfl rfl (any_of HT_.out (by kernel_rfl)) (fun _ _ _ h => h) (Or.inl ⟨by rfl, ?_⟩) ?_ ?_
     rotate_left; · intro w'; go_simp; with_reducible rfl
     rotate_left; · simp only [pk, i64_w, i32_w]; rfl
     refine pure_ (i := 8) (N := some 51) (v := ?_) (a' := ?_) #[O, I, I, O, I, O, O, O, I, O, O, O, O, O, O, O, O, O, O] rfl rfl (any_of HT_.out (by kernel_rfl)) (fun _ _ _ h => h) (Or.inl ⟨by rfl, ?_⟩) ?_ ?_
     rotate_left; · intro w'; go_simp; with_reducible rfl
     rotate_left; · simp only [pk, i64_w, i32_w]; rfl
     refine pure_ (i := 10) (N := some 53) (v := ?_) (a' := ?_) #[O, I, I, O, I, O, O, O, I, O, I, O, O, O, O, O, O, O, O] rfl rfl (any_of HT_.out (by kernel_rfl)) (fun _ _ _ h => h) (Or.inl ⟨by rfl, ?_⟩) ?_ ?_
     rotate_left; · intro w'; go_simp; with_reducible rfl
     rotate_left; · simp only [pk, i64_w, i32_w]; rfl
     refine pure_ (i := 14) (N := some 57) (v := ?_) (a' := ?_) #[O, I, I, O, I, O, O, O, I, O, I, O, O, O, I, O, O, O, O] rfl rfl (any_of HT_.out (by kernel_rfl)) (fun _ _ _ h => h) (Or.inl ⟨by rfl, ?_⟩) ?_ ?_
     rotate_left; · intro w'; go_simp; with_reducible rfl
     rotate_left; · simp only [pk, i64_w, i32_w]; rfl
     refine take_ (i := 0) (N := some 43) (v := ?_) (a' := ?_) #[I, I, I, O, I, O, O, O, I, O, I, O, O, O, I, O, O, O, O] rfl rfl (take_ofW HT_.out HW_.out (by kernel_rfl)) (fun _ _ _ h => h) (Or.inl ⟨by rfl, ?_⟩) hHeld ?_ ?_
     rotate_left; · rintro w' ⟨s0, s1, s2, s3, s4, s5, s6, s7, s8, s9, s10, s11, s12, s13⟩; go_simp; with_reducible rfl
     rotate_left; · simp only [pk, i64_w, i32_w]; rfl
     refine take_ (i := 3) (N := some 46) (v := ?_) (a' := ?_) #[I, I, I, I, I, O, O, O, I, O, I, O, O, O, I, O, O, O, O] rfl rfl (take_ofW HT_.out HW_.out (by kernel_rfl)) (fun _ _ _ h => h) (Or.inl ⟨by rfl, ?_⟩) hHeld ?_ ?_
     rotate_left; · rintro w' ⟨s0, s1, s2, s3, s4, s5, s6, s7, s8, s9, s10, s11, s12, s13⟩; go_simp; with_reducible rfl
     rotate_left; · simp only [pk, i64_w, i32_w]; rfl
     refine pure_ (i := 5) (N := some 48) (v := ?_) (a' := ?_) #[I, I, I, I, I, I, O, O, I, O, I, O, O, O, I, O, O, O, O] rfl rfl (any_of HT_.out (by kernel_rfl)) (fun _ _ _ h => h) (Or.inl ⟨by rfl, ?_⟩) ?_ ?_
     rotate_left; · intro w'; go_simp; with_reducible rfl
     rotate_left; · simp only [pk, i64_w, i32_w]; rfl
     refine take_ (i := 6) (N := some 49) (v := ?_) (a' := ?_) #[I, I, I, I, I, I, I, O, I, O, I, O, O, O, I, O, O, O, O] rfl rfl (take_ofW HT_.out HW_.out (by kernel_rfl)) (fun _ _ _ h => h) (Or.inl ⟨by rfl, ?_⟩) hHeld ?_ ?_
     rotate_left; · rintro w' ⟨s0, s1, s2, s3, s4, s5, s6, s7, s8, s9, s10, s11, s12, s13⟩; go_simp; with_reducible rfl
     rotate_left; · simp only [pk, i64_w, i32_w]; rfl
     refine take_ (i := 9) (N := some 52) (v := ?_) (a' := ?_) #[I, I, I, I, I, I, I, O, I, I, I, O, O, O, I, O, O, O, O] rfl rfl (take_ofW HT_.out HW_.out (by kernel_rfl)) (fun _ _ _ h => h) (Or.inl ⟨by rfl, ?_⟩) hHeld ?_ ?_
     rotate_left; · rintro w' ⟨s0, s1, s2, s3, s4, s5, s6, s7, s8, s9, s10, s11, s12, s13⟩; go_simp; with_reducible rfl
     rotate_left; · simp only [pk, i64_w, i32_w]; rfl
     refine pure_ (i := 11) (N := some 54) (v := ?_) (a' := ?_) #[I, I, I, I, I, I, I, O, I, I, I, I, O, O, I, O, O, O, O] rfl rfl (any_of HT_.out (by kernel_rfl)) (fun _ _ _ h => h) (Or.inl ⟨by rfl, ?_⟩) ?_ ?_
     rotate_left; · intro w'; go_simp; with_reducible rfl
     rotate_left; · simp only [pk, i64_w, i32_w]; rfl
     refine pure_ (i := 12) (N := some 55) (v := ?_) (a' := ?_) #[I, I, I, I, I, I, I, O, I, I, I, I, I, O, I, O, O, O, O] rfl rfl (any_of HT_.out (by kernel_rfl)) (fun _ _ _ h => h) (Or.inl ⟨by rfl, ?_⟩) ?_ ?_
     rotate_left; · intro w'; go_simp; with_reducible rfl
     rotate_left; · simp only [pk, i64_w, i32_w]; rfl
     refine take_ (i := 13) (N := some 56) (v := ?_) (a' := ?_) #[I, I, I, I, I, I, I, O, I, I, I, I, I, I, I, O, O, O, O] rfl rfl (take_ofW HT_.out HW_.out (by kernel_rfl)) (fun _ _ _ h => h) (Or.inl ⟨by rfl, ?_⟩) hHeld ?_ ?_
     rotate_left; · rintro w' ⟨s0, s1, s2, s3, s4, s5, s6, s7, s8, s9, s10, s11, s12, s13⟩; go_simp; with_reducible rfl
     rotate_left; · simp only [pk, i64_w, i32_w]; rfl
     refine pure_ (i := 15) (N := some 58) (v := ?_) (a' := ?_) #[I, I, I, I, I, I, I, O, I, I, I, I, I, I, I, I, O, O, O] rfl rfl (any_of HT_.out (by kernel_rfl)) (fun _ _ _ h => h) (Or.inl ⟨by rfl, ?_⟩) ?_ ?_
     rotate_left; · intro w'; go_simp; with_reducible rfl
     rotate_left; · simp only [pk, i64_w, i32_w]; rfl
     refine pure_ (i := 16) (N := some 59) (v := ?_) (a' := ?_) #[I, I, I, I, I, I, I, O, I, I, I, I, I, I, I, I, I, O, O] rfl rfl (any_of HT_.out (by kernel_rfl)) (fun _ _ _ h => h) (Or.inl ⟨by rfl, ?_⟩) ?_ ?_
     rotate_left; · intro w'; go_simp; with_reducible rfl
     rotate_left; · simp only [pk, i64_w, i32_w]; rfl
     refine take_ (i := 17) (N := some 60) (v := ?_) (a' := ?_) #[I, I, I, I, I, I, I, O, I, I, I, I, I, I, I, I, I, I, O] rfl rfl (take_ofW HT_.out HW_.out (by kernel_rfl)) (fun _ _ _ h => h) (Or.inl ⟨by rfl, ?_⟩) hHeld ?_ ?_
     rotate_left; · rintro w' ⟨s0, s1, s2, s3, s4, s5, s6, s7, s8, s9, s10, s11, s12, s13⟩; go_simp; with_reducible rfl
     rotate_left; · simp only [pk, i64_w, i32_w]; rfl
     refine one_ (i := 7) (N := some 50) #[I, I, I, I, I, I, I, I, I, I, I, I, I, I, I, I, I, I, O] rfl rfl (one_of HT_.out (by kernel_rfl)) (by decide) (fun K hK => ?_)
     refine goes_ Tryd.func74 (by kernel_rfl) rfl #[.agg #[.slice (some ad272) l0_0.length c0_0, .slice (some ad278) l0_1.length c0_1], .slice A1 l1.length c1, .int .i64 (rd ((rd_T88 l0_0 a2).f3) x10_2)] (by rfl) rfl rfl (by (try simp only [lm]); first | done | rfl | (simp only [List.length_drop, List.length_take]; rfl)) ?_
     with_reducible refine (ih_spec_l08Type k2 (by have := HJ6.out; have := HK2.out; omega) _ _ l0_0 _ _ l0_1 _ _ l1 (rd ((rd_T88 l0_0 a2).f3) x10_2) t277 _ ?side1 ?side2 ?side3 ?side4 ?side5 ?side6 A29.out).mono ?_
     (case side1 => exact Kd.C_below HR0_0.out (be w))
     (case side2 => exact HC0_0.out)
     (case side3 => repeat (first | exact (Kd.V_reads' HO_271001.out).2.2 | (with_reducible refine Kd.C_alloc ?_ _) | (with_reducible refine Kd.C_drewN ?_ _) | (with_reducible refine Kd.C_drew ?_)))
     (case side4 => exact (Kd.V_reads' HO_271001.out).2.1)
     (case side5 => exact Kd.C_below HR1.out (be w))
     (case side6 => exact HC1.out)
     rintro e w43 ⟨rfl, hb⟩
     have HS7_ := (hb.cell (World.block_lt_of_cell? _ _ (hHeld.2.2.2.2.2.2.2.1))).trans (hHeld.2.2.2.2.2.2.2.1)
     have HS8_ := (hb.cell (World.block_lt_of_cell? _ _ (hHeld.2.2.2.2.2.2.2.2.1))).trans (hHeld.2.2.2.2.2.2.2.2.1)
     have HS9_ := (hb.cell (World.block_lt_of_cell? _ _ (hHeld.2.2.2.2.2.2.2.2.2.1))).trans (hHeld.2.2.2.2.2.2.2.2.2.1)
     have HS10_ := (hb.cell (World.block_lt_of_cell? _ _ (hHeld.2.2.2.2.2.2.2.2.2.2.1))).trans (hHeld.2.2.2.2.2.2.2.2.2.2.1)
     have HS11_ := (hb.cell (World.block_lt_of_cell? _ _ (hHeld.2.2.2.2.2.2.2.2.2.2.2.1))).trans (hHeld.2.2.2.2.2.2.2.2.2.2.2.1)
     have HS12_ := (hb.cell (World.block_lt_of_cell? _ _ (hHeld.2.2.2.2.2.2.2.2.2.2.2.2.1))).trans (hHeld.2.2.2.2.2.2.2.2.2.2.2.2.1)
     have HS13_ := (hb.cell (World.block_lt_of_cell? _ _ (hHeld.2.2.2.2.2.2.2.2.2.2.2.2.2))).trans (hHeld.2.2.2.2.2.2.2.2.2.2.2.2.2)
     refine ⟨_, rfl, ?_⟩
     replace HO_271001 := As.mk (Kd.V_below (by (with_reducible repeat (first | apply Kd.V_alloc | apply Kd.V_drewN | apply Kd.V_drew)); exact HO_271001.out) hb)
     replace HL278_1 := As.mk (Kd.V_below (by (with_reducible repeat (first | apply Kd.V_alloc | apply Kd.V_drewN | apply Kd.V_drew)); exact HL278_1.out) hb)
     replace BK270 := As.mk (blk_below (bx BK270.out) hb)
     replace BK271 := As.mk (blk_below (bx BK271.out) hb)
     replace BK273 := As.mk (blk_below (bx BK273.out) hb)
     replace HR278_1 := As.mk (Kd.C_below (by repeat (first | (with_reducible exact HR278_1.out) | (with_reducible refine Kd.C_alloc ?_ _) | (with_reducible refine Kd.C_drewN ?_ _) | (with_reducible refine Kd.C_drew ?_) | exact HR278_1.out)) hb)
     replace HB := As.mk (below_step (be w) hb)
     (try clear hb)
     (try clear hb2)
     (try clear hk)
     (try clear hi)
     refine hK.out _ _ ⟨(blk_cell BK270.out 0).trans rfl, (blk_cell BK270.out 1).trans rfl, (blk_cell BK273.out 0).trans rfl, (blk_cell BK273.out 1).trans rfl, (blk_cell BK273.out 2).trans rfl, (blk_cell BK273.out 3).trans rfl, (ce HB.out hw276_0 :), HS7_, HS8_, HS9_, HS10_, HS11_, HS12_, HS13_⟩ (fun hHeld => ?_)
     clear hK K
     refine norm_ (a' := ?_) ?_ ?_
     rotate_left
     ·
      show Act.put _ (some 50) _ = _
      simp only [pk, i64_w, i32_w]
      rfl
     refine pure_ (i := 18) (N := some 61) (v := ?_) (a' := ?_) #[I, I, I, I, I, I, I, I, I, I, I, I, I, I, I, I, I, I, I] rfl rfl (any_of HT_.out (by kernel_rfl)) (fun _ _ _ h => h) (Or.inl ⟨by rfl, ?_⟩) ?_ ?_
     rotate_left; · intro w'; go_simp; with_reducible rfl
     rotate_left; · simp only [pk, i64_w, i32_w]; rfl
     refine done_ (done_of HT_.out (by kernel_rfl)) ?_
     have hnb44 := NB271_270.out
     have hnc44 := NB270_271.out
     obtain ⟨hcz45_0, hcz45_1, hcz45_2, hcz45_3, hcz45_4, hfz45_0, hfz45_1, hfz45_2, hfz45_3, hfz45_4⟩ := cl5 BK271.out
     try go_wp2
     refine bodyPost_ret (results_ct rfl _ _ gb271 125 #[.string (⟨#[]⟩ : ByteArray), .slice none 0 0, .int .i64 0, .int .i64 0, .int .i64 0] (0, 0) _ rfl (by refine pl ?_; refine blk_put (cs := #[.string (⟨#[]⟩ : ByteArray), .slice none 0 0, .int .i64 0, .int .i64 0, .int .i64 x272004_2]) ?_ 4 _ rfl; refine pl ?_; refine blk_put (cs := #[.string (⟨#[]⟩ : ByteArray), .slice none 0 0, .int .i64 0, .int .i64 x272003_2, .int .i64 x272004_2]) ?_ 3 _ rfl; refine pl ?_; refine blk_put (cs := #[.string (⟨#[]⟩ : ByteArray), .slice none 0 0, .int .i64 x272002_2, .int .i64 x272003_2, .int .i64 x272004_2]) ?_ 2 _ rfl; refine pl ?_; refine blk_put (cs := #[.string (⟨#[]⟩ : ByteArray), .slice none 0 0, .int .i64 x272002_2, .int .i64 x272003_2, .int .i64 x272004_2]) ?_ 1 _ rfl; refine pl ?_; refine blk_put (cs := #[.string x272000_2, .slice none 0 0, .int .i64 x272002_2, .int .i64 x272003_2, .int .i64 x272004_2]) ?_ 0 _ rfl; exact bx BK271.out) Tryd.underlying125 rfl (by kernel_rfl)) rfl ?_
     exact ⟨_, (ew ⟨Kd.V_nil _ _ _ _ _, be w⟩)⟩
def spec_l08Type.T23 : Bool × List (List Nat × List Nat) := (true, [([], []), ([], []), ([], []), ([2], [2]), ([3], [3]), ([4], [4]), ([0, 1, 5], [0, 1, 5]), ([6], [6])])
def spec_l08Type.B23 : List Nat := [0, 0, 0, 4, 12, 28, 63, 127]
theorem spec_l08Type.tab23 : rtab .any (opsOf Tryd.f74 23) = spec_l08Type.T23 := by kernel_rfl
theorem spec_l08Type.bits23 : waitsOk spec_l08Type.T23.2 spec_l08Type.B23 = true := by kernel_rfl
set_option maxHeartbeats 8000000 in
set_option maxRecDepth 100000 in
theorem spec_l08Type.callsO (k : Nat) (ih_spec_l08Two : ∀ m_, m_ < k → spec_l08Two.C m_) (ih_spec_l08Sig : ∀ m_, m_ < k → spec_l08Sig.C m_) (ih : ∀ m_, m_ < k → spec_l08Type.C m_) : spec_l08Type.C k := by
 intro A0_0 c0_0 l0_0 A0_1 c0_1 l0_1 A1 c1 l1 a2 r w hr0_0 hc0_0 hr0_1 hc0_1 hr1 hc1 h
 cases k with
 | zero => exact absurd h (by simp [spec_l08Type.f])
 | succ k =>
 simp only [spec_l08Type.f] at h
 have hu43 := Tryd.underlying43
 have hu88 := Tryd.underlying88
 have hu125 := Tryd.underlying125
 have HR0_0 := As.mk hr0_0
 have HC0_0 := As.mk hc0_0
 clear hr0_0 hc0_0
 have HR0_1 := As.mk hr0_1
 have HC0_1 := As.mk hc0_1
 clear hr0_1 hc0_1
 have HR1 := As.mk hr1
 have HC1 := As.mk hc1
 clear hr1 hc1
 have HB := As.mk (Below.refl w.heap.size w)
 have H : (if 0 ≤ a2 then (if a2 < (l0_0.length : Int) then ((spec_l08Var.f k l1 ((rd_T88 l0_0 a2).f2)).bind fun t284 => (if t284 = 2 then (spec_l08Type.j0 k l1 a2 t284 true l0_0 l0_1 ((rd_T88 l0_0 a2).f0) ((rd_T88 l0_0 a2).f1) ((rd_T88 l0_0 a2).f2) ((rd_T88 l0_0 a2).f3)) else (if t284 = 3 then (spec_l08Type.j0 k l1 a2 t284 true l0_0 l0_1 ((rd_T88 l0_0 a2).f0) ((rd_T88 l0_0 a2).f1) ((rd_T88 l0_0 a2).f2) ((rd_T88 l0_0 a2).f3)) else (spec_l08Type.j0 k l1 a2 t284 (t284 == 4) l0_0 l0_1 ((rd_T88 l0_0 a2).f0) ((rd_T88 l0_0 a2).f1) ((rd_T88 l0_0 a2).f2) ((rd_T88 l0_0 a2).f3))))) else (none)) else (none)) = some r := h
 clear h
 by_cases c4 : 0 ≤ a2
 rotate_left; · rw [if_neg c4] at H; exact absurd H (by simp)

 rw [if_pos c4] at H
 have c4b0 : decide (0 ≤ a2) = true := decide_eq_true c4
 clear c4
 by_cases c5 : a2 < (l0_0.length : Int)
 rotate_left; · rw [if_neg c5] at H; exact absurd H (by simp)
 rw [if_pos c5] at H
 have c5b0 : decide (a2 < (l0_0.length : Int)) = true := decide_eq_true c5
 clear c5
 obtain ⟨t284, A60, H⟩ := Option.bind_eq_some_iff.mp H
 try dsimp only at H
 have A6 := As.mk A60
 clear A60
 have HC7 := As.mk H
 clear H
 go_enter Tryd.func74, Tryd.ntmps74
 go_upto_region 3 with (first | ((with_reducible refine gate_dst (N := 3) rfl ?_); refine box_event ?hg (N := 3) ?hd (cs := #[.slice A0_0 l0_0.length c0_0, .slice A0_1 l0_1.length c0_1]) (t := 43) ?hr ?_; (case hd => rfl); (case hg => rfl); (case hr => first | (go_simp; done) | (go_simp; rfl)); intro gb281 hg w8 hbox hb; have BK281 := As.mk (hbox); have GW281 := As.mk (gs w hg); have GE281 := As.mk (gs w hg); replace HB := As.mk (below_step (be w) hb); clear hb hbox hg; obtain ⟨hcz9_0, hcz9_1, hfz9_0, hfz9_1⟩ := cl2 BK281.out; have p282 : 0 ≤ (a2 : Int) := od; have q282 : a2 < (l0_0.length : Int) := od; obtain ⟨ad282, A282_3, c282_3, e282, hx282_0, hx282_1, hx282_2, hx282_3, hl282_3, hi282_3⟩ := at_T88 HR0_0.out a2 p282 q282; cases e282; replace hx282_0 := ce HB.out hx282_0; replace hx282_1 := ce HB.out hx282_1; replace hx282_2 := ce HB.out hx282_2; replace hx282_3 := ce HB.out hx282_3; have HR282_3 := As.mk hi282_3; have HC282_3 := As.mk hl282_3; clear hi282_3 hl282_3; replace p282 := eq_true p282; replace q282 := eq_true q282) | ((with_reducible refine gate_dst (N := 7) rfl ?_); refine box_event ?hg (N := 7) ?hd (cs := #[.int .i64 0, .int .i64 0, .string (⟨#[]⟩ : ByteArray), .slice none 0 0]) (t := 88) ?hr ?_; (case hd => rfl); (case hg => rfl); (case hr => first | (go_simp; done) | (go_simp; rfl)); intro gb283 hg w10 hbox hb; have BK283 := As.mk (hbox); have GW283 := As.mk (gs w hg); have GE283 := As.mk (gs w hg); replace HB := As.mk (below_step (be w) hb); have NB281_283 := As.mk (nl hg (bx BK281.out)); have NB283_281 := As.mk (ng hg (bx BK281.out)); replace BK281 := As.mk (blk_below (bx BK281.out) hb); clear hb hbox hg; have hnb11 := NB283_281.out; have hnc11 := NB281_283.out; obtain ⟨hcz12_0, hcz12_1, hcz12_2, hcz12_3, hfz12_0, hfz12_1, hfz12_2, hfz12_3⟩ := cl4 BK283.out) | ((with_reducible refine gate_callee (f := 98) rfl ?_); refine goesL_ (some 20) rfl rfl Tryd.func98 (by kernel_rfl) rfl #[.slice A1 l1.length c1, .string ((rd_T88 l0_0 a2).f2)] rfl (by (try simp only [lm]); first | done | rfl | (simp only [List.length_drop, List.length_take]; rfl)) ?_; (with_reducible refine (spec_l08Var.calls k _ _ l1 ((rd_T88 l0_0 a2).f2) t284 _ ?side1 ?side2 A6.out).mono ?_); (case side1 => exact Kd.C_below HR1.out (be w)); (case side2 => exact HC1.out); rintro e w' ⟨rfl, ⟨nd, rfl⟩⟩; refine ⟨_, rfl, ?_⟩))
 (try simp only [pk])
 go_cut [9] (fun v9 wc => ∃ (kq : Nat) (x9_6 : Bool), v9 = .bool x9_6 ∧ As (spec_l08Type.j0 kq l1 a2 t284 x9_6 l0_0 l0_1 ((rd_T88 l0_0 a2).f0) ((rd_T88 l0_0 a2).f1) ((rd_T88 l0_0 a2).f2) ((rd_T88 l0_0 a2).f3) = some r) ∧ As (kq ≤ k) ∧ As (wc.heap[gb281]? = some (.cells #[(.slice (some ad282) l0_0.length c0_0), (.slice A0_1 l0_1.length c0_1)] 43 (0, 0))) ∧ As (wc.heap[gb283]? = some (.cells #[.int .i64 ((rd_T88 l0_0 a2).f0), .int .i64 ((rd_T88 l0_0 a2).f1), .string ((rd_T88 l0_0 a2).f2), (.slice A282_3 ((rd_T88 l0_0 a2).f3).length c282_3)] 88 (0, 0))) ∧ As (Below w.heap.size w wc))
 case first =>
  have H := HC7.out
  clear HC7
  by_cases c13 : t284 = 2
  ·
   rw [if_pos c13] at H
   have c13b0 : (t284 == 2) = true := beq_iff_eq.mpr c13
   have c13b1 : (t284 != 2) = false := bne_eq_false_iff_eq.mpr c13
   clear c13
   (first | rw [c13b0] | (simp only [i64_w, i32_w]; rw [c13b0]) | skip)
   have H' := As.mk H
   clear H
   go_wp2
   go_meet
   case rel => exact ⟨_, (true), (by first | rfl | (simp; done) | (simp [*]; done)), H', ⟨by first | omega | exact Nat.le_refl _⟩, ⟨by refine pl ?_; refine blk_far ?_ NB281_283.out _; refine pl ?_; refine blk_far ?_ NB281_283.out _; refine pl ?_; refine blk_far ?_ NB281_283.out _; refine pl ?_; refine blk_far ?_ NB281_283.out _; exact bx BK281.out⟩, ⟨by refine pl ?_; refine blk_put (cs := #[.int .i64 ((rd_T88 l0_0 a2).f0), .int .i64 ((rd_T88 l0_0 a2).f1), .string ((rd_T88 l0_0 a2).f2), .slice none 0 0]) ?_ 3 _ rfl; refine pl ?_; refine blk_put (cs := #[.int .i64 ((rd_T88 l0_0 a2).f0), .int .i64 ((rd_T88 l0_0 a2).f1), .string (⟨#[]⟩ : ByteArray), .slice none 0 0]) ?_ 2 _ rfl; refine pl ?_; refine blk_put (cs := #[.int .i64 ((rd_T88 l0_0 a2).f0), .int .i64 0, .string (⟨#[]⟩ : ByteArray), .slice none 0 0]) ?_ 1 _ rfl; refine pl ?_; refine blk_put (cs := #[.int .i64 0, .int .i64 0, .string (⟨#[]⟩ : ByteArray), .slice none 0 0]) ?_ 0 _ rfl; exact bx BK283.out⟩, ⟨be w⟩⟩
  rw [if_neg c13] at H
  have c13b0 : (t284 == 2) = false := beq_eq_false_iff_ne.mpr c13
  have c13b1 : (t284 != 2) = true := bne_iff_ne.mpr c13
  (first | rw [c13b0] | (simp only [i64_w, i32_w]; rw [c13b0]) | skip)
  by_cases c14 : t284 = 3
  rotate_left
  ·
   rw [if_neg c14] at H
   have c14b0 : (t284 == 3) = false := beq_eq_false_iff_ne.mpr c14
   have c14b1 : (t284 != 3) = true := bne_iff_ne.mpr c14
   have H' := As.mk H
   clear H
   go_wp2
   go_meet
   case rel => exact ⟨_, ((t284 == 4)), (by first | rfl | (simp; done) | (simp [*]; done)), H', ⟨by first | omega | exact Nat.le_refl _⟩, ⟨by refine pl ?_; refine blk_far ?_ NB281_283.out _; refine pl ?_; refine blk_far ?_ NB281_283.out _; refine pl ?_; refine blk_far ?_ NB281_283.out _; refine pl ?_; refine blk_far ?_ NB281_283.out _; exact bx BK281.out⟩, ⟨by refine pl ?_; refine blk_put (cs := #[.int .i64 ((rd_T88 l0_0 a2).f0), .int .i64 ((rd_T88 l0_0 a2).f1), .string ((rd_T88 l0_0 a2).f2), .slice none 0 0]) ?_ 3 _ rfl; refine pl ?_; refine blk_put (cs := #[.int .i64 ((rd_T88 l0_0 a2).f0), .int .i64 ((rd_T88 l0_0 a2).f1), .string (⟨#[]⟩ : ByteArray), .slice none 0 0]) ?_ 2 _ rfl; refine pl ?_; refine blk_put (cs := #[.int .i64 ((rd_T88 l0_0 a2).f0), .int .i64 0, .string (⟨#[]⟩ : ByteArray), .slice none 0 0]) ?_ 1 _ rfl; refine pl ?_; refine blk_put (cs := #[.int .i64 0, .int .i64 0, .string (⟨#[]⟩ : ByteArray), .slice none 0 0]) ?_ 0 _ rfl; exact bx BK283.out⟩, ⟨be w⟩⟩
  rw [if_pos c14] at H
  have c14b0 : (t284 == 3) = true := beq_iff_eq.mpr c14
  have c14b1 : (t284 != 3) = false := bne_eq_false_iff_eq.mpr c14
  clear c14
  have H' := As.mk H
  clear H
  go_wp2
  go_meet
  case rel => exact ⟨_, (true), (by first | rfl | (simp; done) | (simp [*]; done)), H', ⟨by first | omega | exact Nat.le_refl _⟩, ⟨by refine pl ?_; refine blk_far ?_ NB281_283.out _; refine pl ?_; refine blk_far ?_ NB281_283.out _; refine pl ?_; refine blk_far ?_ NB281_283.out _; refine pl ?_; refine blk_far ?_ NB281_283.out _; exact bx BK281.out⟩, ⟨by refine pl ?_; refine blk_put (cs := #[.int .i64 ((rd_T88 l0_0 a2).f0), .int .i64 ((rd_T88 l0_0 a2).f1), .string ((rd_T88 l0_0 a2).f2), .slice none 0 0]) ?_ 3 _ rfl; refine pl ?_; refine blk_put (cs := #[.int .i64 ((rd_T88 l0_0 a2).f0), .int .i64 ((rd_T88 l0_0 a2).f1), .string (⟨#[]⟩ : ByteArray), .slice none 0 0]) ?_ 2 _ rfl; refine pl ?_; refine blk_put (cs := #[.int .i64 ((rd_T88 l0_0 a2).f0), .int .i64 0, .string (⟨#[]⟩ : ByteArray), .slice none 0 0]) ?_ 1 _ rfl; refine pl ?_; refine blk_put (cs := #[.int .i64 0, .int .i64 0, .string (⟨#[]⟩ : ByteArray), .slice none 0 0]) ?_ 0 _ rfl; exact bx BK283.out⟩, ⟨be w⟩⟩
 case rest =>
  clear HC7
  (try clear c1); (try clear c4); (try clear c4b0); (try clear c5); (try clear c5b0); (try clear hcz12_0); (try clear hcz12_1); (try clear hcz12_2); (try clear hcz12_3); (try clear hcz9_0); (try clear hcz9_1); (try clear hfz12_0); (try clear hfz12_1); (try clear hfz12_2); (try clear hfz12_3); (try clear hfz9_0); (try clear hfz9_1); (try clear hx282_0); (try clear hx282_1); (try clear hx282_2); (try clear hx282_3); (try clear p282); (try clear q282)
  obtain ⟨kq, x9_6, rfl, HA, HJ6, BK281, BK283, HB⟩ := hcut
  cases kq with
  | zero => exact absurd HA.out (by simp [spec_l08Type.j0])
  | succ kj6 =>
   have H := HA.out
   clear HA
   simp only [spec_l08Type.j0] at H
   have HC15 := As.mk H
   clear H
   have hnb16 := NB283_281.out
   have hnc16 := NB281_283.out
   obtain ⟨hcz17_0, hcz17_1, hcz17_2, hcz17_3, hfz17_0, hfz17_1, hfz17_2, hfz17_3⟩ := cl4 BK283.out
   go_upto_if 33 with (fail)
   go_cut [33] (fun v33 wc => ∃ (kq : Nat) (x33_14 : Bool), v33 = .bool x33_14 ∧ As (spec_l08Type.j1 kq l1 a2 t284 x9_6 ((rd_T88 l0_0 a2).f0) x33_14 l0_0 l0_1 ((rd_T88 l0_0 a2).f0) ((rd_T88 l0_0 a2).f1) ((rd_T88 l0_0 a2).f2) ((rd_T88 l0_0 a2).f3) = some r) ∧ As (kq ≤ kj6) ∧ As (wc.heap[gb281]? = some (.cells #[(.slice (some ad282) l0_0.length c0_0), (.slice A0_1 l0_1.length c0_1)] 43 (0, 0))) ∧ As (wc.heap[gb283]? = some (.cells #[.int .i64 ((rd_T88 l0_0 a2).f0), .int .i64 ((rd_T88 l0_0 a2).f1), .string ((rd_T88 l0_0 a2).f2), (.slice A282_3 ((rd_T88 l0_0 a2).f3).length c282_3)] 88 (0, 0))) ∧ As (Below w.heap.size w wc))
   case first =>
    have H := HC15.out
    clear HC15
    by_cases c18 : ((rd_T88 l0_0 a2).f0) = 1
    rotate_left
    ·
     rw [if_neg c18] at H
     have c18b0 : (((rd_T88 l0_0 a2).f0) == 1) = false := beq_eq_false_iff_ne.mpr c18
     have c18b1 : (((rd_T88 l0_0 a2).f0) != 1) = true := bne_iff_ne.mpr c18
     (first | rw [c18b0] | (simp only [i64_w, i32_w]; rw [c18b0]) | skip)
     have H' := As.mk H
     clear H
     go_wp2
     go_meet
     case rel => exact ⟨_, ((((rd_T88 l0_0 a2).f0) == 7)), (by first | rfl | (simp; done) | (simp [*]; done)), H', ⟨by have := HJ6.out; first | omega | exact Nat.le_refl _⟩, ⟨bx BK281.out⟩, ⟨bx BK283.out⟩, ⟨be w⟩⟩
    rw [if_pos c18] at H
    have c18b0 : (((rd_T88 l0_0 a2).f0) == 1) = true := beq_iff_eq.mpr c18
    have c18b1 : (((rd_T88 l0_0 a2).f0) != 1) = false := bne_eq_false_iff_eq.mpr c18
    clear c18
    (first | rw [c18b0] | (simp only [i64_w, i32_w]; rw [c18b0]) | skip)
    have H' := As.mk H
    clear H
    go_wp2
    go_meet
    case rel => exact ⟨_, ((((rd_T88 l0_0 a2).f0) == 1)), (by first | rfl | (simp; done) | (simp [*]; done)), H', ⟨by have := HJ6.out; first | omega | exact Nat.le_refl _⟩, ⟨bx BK281.out⟩, ⟨bx BK283.out⟩, ⟨be w⟩⟩
   case rest =>
    clear HC15
    (try clear c1); (try clear c4); (try clear c4b0); (try clear c5); (try clear c5b0); (try clear hcz12_0); (try clear hcz12_1); (try clear hcz12_2); (try clear hcz12_3); (try clear hcz17_0); (try clear hcz17_1); (try clear hcz17_2); (try clear hcz17_3); (try clear hcz9_0); (try clear hcz9_1); (try clear hfz12_0); (try clear hfz12_1); (try clear hfz12_2); (try clear hfz12_3); (try clear hfz17_0); (try clear hfz17_1); (try clear hfz17_2); (try clear hfz17_3); (try clear hfz9_0); (try clear hfz9_1); (try clear hx282_0); (try clear hx282_1); (try clear hx282_2); (try clear hx282_3); (try clear p282); (try clear q282)
    obtain ⟨kq, x33_14, rfl, HA, HJ14, BK281, BK283, HB⟩ := hcut
    cases kq with
    | zero => exact absurd HA.out (by simp [spec_l08Type.j1])
    | succ kj14 =>
     have H := HA.out
     clear HA
     simp only [spec_l08Type.j1] at H
     by_cases c19 : x33_14 = true
     ·
      subst c19
      rw [if_pos rfl] at H
      obtain rfl := Option.some.inj H
      go_wp2
      go_ret
      exact (ew (be w))
     replace c19 := Bool.eq_false_iff.mpr c19
     subst c19
     rw [if_neg (show ¬ (false = true) by decide)] at H
     by_cases c20 : ((rd_T88 l0_0 a2).f0) = 2
     ·
      rw [if_pos c20] at H
      have c20b0 : (((rd_T88 l0_0 a2).f0) == 2) = true := beq_iff_eq.mpr c20
      have c20b1 : (((rd_T88 l0_0 a2).f0) != 2) = false := bne_eq_false_iff_eq.mpr c20
      clear c20
      obtain rfl := Option.some.inj H
      go_wp2
      go_ret
      exact (ew (be w))
     rw [if_neg c20] at H
     have c20b0 : (((rd_T88 l0_0 a2).f0) == 2) = false := beq_eq_false_iff_ne.mpr c20
     have c20b1 : (((rd_T88 l0_0 a2).f0) != 2) = true := bne_iff_ne.mpr c20
     by_cases c21 : ((rd_T88 l0_0 a2).f0) = 3
     ·
      rw [if_pos c21] at H
      have c21b0 : (((rd_T88 l0_0 a2).f0) == 3) = true := beq_iff_eq.mpr c21
      have c21b1 : (((rd_T88 l0_0 a2).f0) != 3) = false := bne_eq_false_iff_eq.mpr c21
      clear c21
      by_cases c22 : x9_6 = true
      ·
       subst c22
       rw [if_pos rfl] at H
       obtain rfl := Option.some.inj H
       go_wp2
       go_ret
       exact (ew (be w))
      replace c22 := Bool.eq_false_iff.mpr c22
      subst c22
      rw [if_neg (show ¬ (false = true) by decide)] at H
      obtain rfl := Option.some.inj H
      go_wp2
      go_ret
      exact (ew (be w))
     rw [if_neg c21] at H
     have c21b0 : (((rd_T88 l0_0 a2).f0) == 3) = false := beq_eq_false_iff_ne.mpr c21
     have c21b1 : (((rd_T88 l0_0 a2).f0) != 3) = true := bne_iff_ne.mpr c21
     by_cases c23 : ((rd_T88 l0_0 a2).f0) = 4
     ·
      rw [if_pos c23] at H
      have c23b0 : (((rd_T88 l0_0 a2).f0) == 4) = true := beq_iff_eq.mpr c23
      have c23b1 : (((rd_T88 l0_0 a2).f0) != 4) = false := bne_eq_false_iff_eq.mpr c23
      clear c23
      by_cases c24 : x9_6 = true
      ·
       subst c24
       rw [if_pos rfl] at H
       obtain rfl := Option.some.inj H
       go_wp2
       go_ret
       exact (ew (be w))
      replace c24 := Bool.eq_false_iff.mpr c24
      subst c24
      rw [if_neg (show ¬ (false = true) by decide)] at H
      obtain rfl := Option.some.inj H
      go_wp2
      go_ret
      exact (ew (be w))
     rw [if_neg c23] at H
     have c23b0 : (((rd_T88 l0_0 a2).f0) == 4) = false := beq_eq_false_iff_ne.mpr c23
     have c23b1 : (((rd_T88 l0_0 a2).f0) != 4) = true := bne_iff_ne.mpr c23
     by_cases c25 : ((rd_T88 l0_0 a2).f0) = 5
     ·
      rw [if_pos c25] at H
      have c25b0 : (((rd_T88 l0_0 a2).f0) == 5) = true := beq_iff_eq.mpr c25
      have c25b1 : (((rd_T88 l0_0 a2).f0) != 5) = false := bne_eq_false_iff_eq.mpr c25
      clear c25
      by_cases c26 : t284 = 2
      rotate_left
      ·
       rw [if_neg c26] at H
       have c26b0 : (t284 == 2) = false := beq_eq_false_iff_ne.mpr c26
       have c26b1 : (t284 != 2) = true := bne_iff_ne.mpr c26
       obtain rfl := Option.some.inj H
       go_wp2
       go_ret
       exact (ew (be w))
      rw [if_pos c26] at H
      have c26b0 : (t284 == 2) = true := beq_iff_eq.mpr c26
      have c26b1 : (t284 != 2) = false := bne_eq_false_iff_eq.mpr c26
      clear c26
      obtain rfl := Option.some.inj H
      go_wp2
      go_ret
      exact (ew (be w))
     rw [if_neg c25] at H
     have c25b0 : (((rd_T88 l0_0 a2).f0) == 5) = false := beq_eq_false_iff_ne.mpr c25
     have c25b1 : (((rd_T88 l0_0 a2).f0) != 5) = true := bne_iff_ne.mpr c25
     by_cases c27 : ((rd_T88 l0_0 a2).f0) = 6
     ·
      rw [if_pos c27] at H
      have c27b0 : (((rd_T88 l0_0 a2).f0) == 6) = true := beq_iff_eq.mpr c27
      have c27b1 : (((rd_T88 l0_0 a2).f0) != 6) = false := bne_eq_false_iff_eq.mpr c27
      clear c27
      by_cases c28 : t284 = 2
      rotate_left
      ·
       rw [if_neg c28] at H
       have c28b0 : (t284 == 2) = false := beq_eq_false_iff_ne.mpr c28
       have c28b1 : (t284 != 2) = true := bne_iff_ne.mpr c28
       obtain rfl := Option.some.inj H
       go_wp2
       go_ret
       exact (ew (be w))
      rw [if_pos c28] at H
      have c28b0 : (t284 == 2) = true := beq_iff_eq.mpr c28
      have c28b1 : (t284 != 2) = false := bne_eq_false_iff_eq.mpr c28
      clear c28
      obtain rfl := Option.some.inj H
      go_wp2
      go_ret
      exact (ew (be w))
     rw [if_neg c27] at H
     have c27b0 : (((rd_T88 l0_0 a2).f0) == 6) = false := beq_eq_false_iff_ne.mpr c27
     have c27b1 : (((rd_T88 l0_0 a2).f0) != 6) = true := bne_iff_ne.mpr c27
     by_cases c29 : ((rd_T88 l0_0 a2).f0) = 8
     rotate_left
     ·
      rw [if_neg c29] at H
      have c29b0 : (((rd_T88 l0_0 a2).f0) == 8) = false := beq_eq_false_iff_ne.mpr c29
      have c29b1 : (((rd_T88 l0_0 a2).f0) != 8) = true := bne_iff_ne.mpr c29
      have HC37 := As.mk H
      clear H
      go_upto_if 63 with (fail)
      go_cut [63] (fun v63 wc => ∃ (kq : Nat) (x63_36 : Bool), v63 = .bool x63_36 ∧ As (spec_l08Type.j2 kq l1 a2 ((rd_T88 l0_0 a2).f0) x63_36 l0_0 l0_1 = some r) ∧ As (kq ≤ kj14) ∧ As (wc.heap[gb281]? = some (.cells #[(.slice (some ad282) l0_0.length c0_0), (.slice A0_1 l0_1.length c0_1)] 43 (0, 0))) ∧ As (Below w.heap.size w wc))
      case first =>
       have H := HC37.out
       clear HC37
       by_cases c38 : ((rd_T88 l0_0 a2).f0) = 9
       ·
        rw [if_pos c38] at H
        have c38b0 : (((rd_T88 l0_0 a2).f0) == 9) = true := beq_iff_eq.mpr c38
        have c38b1 : (((rd_T88 l0_0 a2).f0) != 9) = false := bne_eq_false_iff_eq.mpr c38
        clear c38
        (first | rw [c38b0] | (simp only [i64_w, i32_w]; rw [c38b0]) | skip)
        have H' := As.mk H
        clear H
        go_wp2
        go_meet
        case rel => exact ⟨_, ((((rd_T88 l0_0 a2).f0) == 9)), (by first | rfl | (simp; done) | (simp [*]; done)), H', ⟨by have := HJ6.out; have := HJ14.out; first | omega | exact Nat.le_refl _⟩, ⟨bx BK281.out⟩, ⟨be w⟩⟩
       rw [if_neg c38] at H
       have c38b0 : (((rd_T88 l0_0 a2).f0) == 9) = false := beq_eq_false_iff_ne.mpr c38
       have c38b1 : (((rd_T88 l0_0 a2).f0) != 9) = true := bne_iff_ne.mpr c38
       (first | rw [c38b0] | (simp only [i64_w, i32_w]; rw [c38b0]) | skip)
       by_cases c39 : ((rd_T88 l0_0 a2).f0) = 10
       rotate_left
       ·
        rw [if_neg c39] at H
        have c39b0 : (((rd_T88 l0_0 a2).f0) == 10) = false := beq_eq_false_iff_ne.mpr c39
        have c39b1 : (((rd_T88 l0_0 a2).f0) != 10) = true := bne_iff_ne.mpr c39
        have H' := As.mk H
        clear H
        go_wp2
        go_meet
        case rel => exact ⟨_, ((((rd_T88 l0_0 a2).f0) == 11)), (by first | rfl | (simp; done) | (simp [*]; done)), H', ⟨by have := HJ6.out; have := HJ14.out; first | omega | exact Nat.le_refl _⟩, ⟨bx BK281.out⟩, ⟨be w⟩⟩
       rw [if_pos c39] at H
       have c39b0 : (((rd_T88 l0_0 a2).f0) == 10) = true := beq_iff_eq.mpr c39
       have c39b1 : (((rd_T88 l0_0 a2).f0) != 10) = false := bne_eq_false_iff_eq.mpr c39
       clear c39
       have H' := As.mk H
       clear H
       go_wp2
       go_meet
       case rel => exact ⟨_, ((((rd_T88 l0_0 a2).f0) == 10)), (by first | rfl | (simp; done) | (simp [*]; done)), H', ⟨by have := HJ6.out; have := HJ14.out; first | omega | exact Nat.le_refl _⟩, ⟨bx BK281.out⟩, ⟨be w⟩⟩
      case rest =>
       clear HC37
       (try clear c1); (try clear c4); (try clear c4b0); (try clear c5); (try clear c5b0); (try clear c19); (try clear c20); (try clear c20b0); (try clear c20b1); (try clear c21); (try clear c21b0); (try clear c21b1); (try clear c23); (try clear c23b0); (try clear c23b1); (try clear c25); (try clear c25b0); (try clear c25b1); (try clear c27); (try clear c27b0); (try clear c27b1); (try clear c29); (try clear c29b0); (try clear c29b1); (try clear hcz12_0); (try clear hcz12_1); (try clear hcz12_2); (try clear hcz12_3); (try clear hcz17_0); (try clear hcz17_1); (try clear hcz17_2); (try clear hcz17_3); (try clear hcz9_0); (try clear hcz9_1); (try clear hfz12_0); (try clear hfz12_1); (try clear hfz12_2); (try clear hfz12_3); (try clear hfz17_0); (try clear hfz17_1); (try clear hfz17_2); (try clear hfz17_3); (try clear hfz9_0); (try clear hfz9_1); (try clear hx282_0); (try clear hx282_1); (try clear hx282_2); (try clear hx282_3); (try clear p282); (try clear q282)
       obtain ⟨kq, x63_36, rfl, HA, HJ36, BK281, HB⟩ := hcut
       cases kq with
       | zero => exact absurd HA.out (by simp [spec_l08Type.j2])
       | succ kj36 =>
        have H := HA.out
        clear HA
        simp only [spec_l08Type.j2] at H
        by_cases c40 : x63_36 = true
        ·
         subst c40
         rw [if_pos rfl] at H
         obtain ⟨t287, A410, H⟩ := Option.bind_eq_some_iff.mp H
         try dsimp only at H
         have A41 := As.mk A410
         clear A410
         by_cases c42 : t287 = true
         ·
          subst c42
          rw [if_pos rfl] at H
          obtain rfl := Option.some.inj H
          obtain ⟨hcz43_0, hcz43_1, hfz43_0, hfz43_1⟩ := cl2 BK281.out
          go_wp2_with (first | ((with_reducible refine gate_callee (f := 99) rfl ?_); refine goesL_ (some 70) rfl rfl Tryd.func99 (by kernel_rfl) rfl #[.agg #[.slice (some ad282) l0_0.length c0_0, .slice A0_1 l0_1.length c0_1], .slice A1 l1.length c1, .int .i64 a2] rfl (by (try simp only [lm]); first | done | rfl | (simp only [List.length_drop, List.length_take]; rfl)) ?_; (with_reducible refine (ih_spec_l08Two kj36 (by have := HJ6.out; have := HJ14.out; have := HJ36.out; omega) _ _ l0_0 _ _ l0_1 _ _ l1 a2 true _ ?side1 ?side2 ?side3 ?side4 ?side5 ?side6 A41.out).mono ?_); (case side1 => exact Kd.C_below HR0_0.out (be w)); (case side2 => exact HC0_0.out); (case side3 => exact Kd.C_below HR0_1.out (be w)); (case side4 => exact HC0_1.out); (case side5 => exact Kd.C_below HR1.out (be w)); (case side6 => exact HC1.out); rintro e w44 ⟨rfl, hb⟩; refine ⟨_, rfl, ?_⟩; replace HB := As.mk (below_step (be w) hb); (try clear hb); (try clear hb2); (try clear hk); (try clear hi)))
          go_ret
          exact (ew (be w))
         replace c42 := Bool.eq_false_iff.mpr c42
         subst c42
         rw [if_neg (show ¬ (false = true) by decide)] at H
         obtain rfl := Option.some.inj H
         obtain ⟨hcz45_0, hcz45_1, hfz45_0, hfz45_1⟩ := cl2 BK281.out
         go_wp2_with (first | ((with_reducible refine gate_callee (f := 99) rfl ?_); refine goesL_ (some 70) rfl rfl Tryd.func99 (by kernel_rfl) rfl #[.agg #[.slice (some ad282) l0_0.length c0_0, .slice A0_1 l0_1.length c0_1], .slice A1 l1.length c1, .int .i64 a2] rfl (by (try simp only [lm]); first | done | rfl | (simp only [List.length_drop, List.length_take]; rfl)) ?_; (with_reducible refine (ih_spec_l08Two kj36 (by have := HJ6.out; have := HJ14.out; have := HJ36.out; omega) _ _ l0_0 _ _ l0_1 _ _ l1 a2 false _ ?side1 ?side2 ?side3 ?side4 ?side5 ?side6 A41.out).mono ?_); (case side1 => exact Kd.C_below HR0_0.out (be w)); (case side2 => exact HC0_0.out); (case side3 => exact Kd.C_below HR0_1.out (be w)); (case side4 => exact HC0_1.out); (case side5 => exact Kd.C_below HR1.out (be w)); (case side6 => exact HC1.out); rintro e w46 ⟨rfl, hb⟩; refine ⟨_, rfl, ?_⟩; replace HB := As.mk (below_step (be w) hb); (try clear hb); (try clear hb2); (try clear hk); (try clear hi)))
         go_ret
         exact (ew (be w))
        replace c40 := Bool.eq_false_iff.mpr c40
        subst c40
        rw [if_neg (show ¬ (false = true) by decide)] at H
        by_cases c47 : ((rd_T88 l0_0 a2).f0) = 12
        rotate_left
        ·
         rw [if_neg c47] at H
         have c47b0 : (((rd_T88 l0_0 a2).f0) == 12) = false := beq_eq_false_iff_ne.mpr c47
         have c47b1 : (((rd_T88 l0_0 a2).f0) != 12) = true := bne_iff_ne.mpr c47
         obtain rfl := Option.some.inj H
         go_wp2
         go_ret
         exact (ew (be w))
        rw [if_pos c47] at H
        have c47b0 : (((rd_T88 l0_0 a2).f0) == 12) = true := beq_iff_eq.mpr c47
        have c47b1 : (((rd_T88 l0_0 a2).f0) != 12) = false := bne_eq_false_iff_eq.mpr c47
        clear c47
        obtain ⟨⟨t288, t289, t292, t293, t294, t295⟩, A480, H⟩ := Option.bind_eq_some_iff.mp H
        try dsimp only at H
        have A48 := As.mk A480
        clear A480
        by_cases c49 : t295 = true
        ·
         subst c49
         rw [if_pos rfl] at H
         obtain rfl := Option.some.inj H
         obtain ⟨hcz50_0, hcz50_1, hfz50_0, hfz50_1⟩ := cl2 BK281.out
         go_wp2_with (first | ((with_reducible refine gate_callee (f := 100) rfl ?_); refine goesL_ (some 77) rfl rfl Tryd.func100 (by kernel_rfl) rfl #[.agg #[.slice (some ad282) l0_0.length c0_0, .slice A0_1 l0_1.length c0_1], .slice A1 l1.length c1, .int .i64 a2] rfl (by (try simp only [lm]); first | done | rfl | (simp only [List.length_drop, List.length_take]; rfl)) ?_; (with_reducible refine (ih_spec_l08Sig kj36 (by have := HJ6.out; have := HJ14.out; have := HJ36.out; omega) _ _ l0_0 (fun k_ => k_ < w.heap.size) _ _ l0_1 _ _ l1 a2 t288 t289 t292 t293 t294 true _ ?side1 ?side2 ?side3 ?side4 ?side5 A48.out).mono ?_); (case side1 => exact Kd.C_below HR0_0.out (be w)); (case side2 => exact HC0_0.out); (case side3 => exact Kd.V_mk HC0_1.out (Kd.F_below (Kd.C_F k125_heap HR0_1.out) (be w))); (case side4 => exact Kd.C_below HR1.out (be w)); (case side5 => exact HC1.out); rintro e w51 ⟨v290, rfl, ho0, hb⟩; refine ⟨_, rfl, ?_⟩; have HO291 := As.mk (Kd.V_lower (Kd.V_mono (ok' := fun k_ => True) ho0 (fun k_ hk_ => trivial)) (below_size (be w))); replace HB := As.mk (below_step (be w) hb); (try clear hb); (try clear hb2); (try clear hk); (try clear hi); (try clear ho0)) | ((with_reducible refine gate_dst (N := 10) rfl ?_); refine box_event ?hg (N := 10) ?hd (cs := #[.string (⟨#[]⟩ : ByteArray), .slice none 0 0, .int .i64 0, .int .i64 0, .int .i64 0]) (t := 125) ?hr ?_; (case hd => rfl); (case hg => rfl); (case hr => first | (go_simp; done) | (go_simp; rfl)); intro gb296 hg w52 hbox hb; replace HO291 := As.mk (Kd.V_below (Kd.V_elderB (by (with_reducible repeat (first | apply Kd.V_alloc | apply Kd.V_drewN | apply Kd.V_drew)); exact HO291.out) gb296 (Nat.le_of_eq hg.symm)) hb); have BK296 := As.mk (hbox); have GW296 := As.mk (gs w hg); have GE296 := As.mk (gs w hg); replace HB := As.mk (below_step (be w) hb); clear hb hbox hg; obtain ⟨hcz53_0, hcz53_1, hcz53_2, hcz53_3, hcz53_4, hfz53_0, hfz53_1, hfz53_2, hfz53_3, hfz53_4⟩ := cl5 BK296.out; obtain ⟨Ao54, co54, eo54⟩ := Kd.V_slice HO291.out; subst eo54))
         go_ret
         exact (ew (be w))
        replace c49 := Bool.eq_false_iff.mpr c49
        subst c49
        rw [if_neg (show ¬ (false = true) by decide)] at H
        obtain rfl := Option.some.inj H
        obtain ⟨hcz55_0, hcz55_1, hfz55_0, hfz55_1⟩ := cl2 BK281.out
        go_wp2_with (first | ((with_reducible refine gate_callee (f := 100) rfl ?_); refine goesL_ (some 77) rfl rfl Tryd.func100 (by kernel_rfl) rfl #[.agg #[.slice (some ad282) l0_0.length c0_0, .slice A0_1 l0_1.length c0_1], .slice A1 l1.length c1, .int .i64 a2] rfl (by (try simp only [lm]); first | done | rfl | (simp only [List.length_drop, List.length_take]; rfl)) ?_; (with_reducible refine (ih_spec_l08Sig kj36 (by have := HJ6.out; have := HJ14.out; have := HJ36.out; omega) _ _ l0_0 (fun k_ => k_ < w.heap.size) _ _ l0_1 _ _ l1 a2 t288 t289 t292 t293 t294 false _ ?side1 ?side2 ?side3 ?side4 ?side5 A48.out).mono ?_); (case side1 => exact Kd.C_below HR0_0.out (be w)); (case side2 => exact HC0_0.out); (case side3 => exact Kd.V_mk HC0_1.out (Kd.F_below (Kd.C_F k125_heap HR0_1.out) (be w))); (case side4 => exact Kd.C_below HR1.out (be w)); (case side5 => exact HC1.out); rintro e w56 ⟨v290, rfl, ho0, hb⟩; refine ⟨_, rfl, ?_⟩; have HO291 := As.mk (Kd.V_lower (Kd.V_mono (ok' := fun k_ => True) ho0 (fun k_ hk_ => trivial)) (below_size (be w))); replace HB := As.mk (below_step (be w) hb); (try clear hb); (try clear hb2); (try clear hk); (try clear hi); (try clear ho0)) | ((with_reducible refine gate_dst (N := 10) rfl ?_); refine box_event ?hg (N := 10) ?hd (cs := #[.string (⟨#[]⟩ : ByteArray), .slice none 0 0, .int .i64 0, .int .i64 0, .int .i64 0]) (t := 125) ?hr ?_; (case hd => rfl); (case hg => rfl); (case hr => first | (go_simp; done) | (go_simp; rfl)); intro gb296 hg w57 hbox hb; replace HO291 := As.mk (Kd.V_below (Kd.V_elderB (by (with_reducible repeat (first | apply Kd.V_alloc | apply Kd.V_drewN | apply Kd.V_drew)); exact HO291.out) gb296 (Nat.le_of_eq hg.symm)) hb); have BK296 := As.mk (hbox); have GW296 := As.mk (gs w hg); have GE296 := As.mk (gs w hg); replace HB := As.mk (below_step (be w) hb); clear hb hbox hg; obtain ⟨hcz58_0, hcz58_1, hcz58_2, hcz58_3, hcz58_4, hfz58_0, hfz58_1, hfz58_2, hfz58_3, hfz58_4⟩ := cl5 BK296.out; obtain ⟨Ao59, co59, eo59⟩ := Kd.V_slice HO291.out; subst eo59))
        go_ret
        exact (ew (be w))
     rw [if_pos c29] at H
     have c29b0 : (((rd_T88 l0_0 a2).f0) == 8) = true := beq_iff_eq.mpr c29
     have c29b1 : (((rd_T88 l0_0 a2).f0) != 8) = false := bne_eq_false_iff_eq.mpr c29
     clear c29
     by_cases c30 : 0 < (((rd_T88 l0_0 a2).f3).length : Int)
     rotate_left; · rw [if_neg c30] at H; exact absurd H (by simp)
     rw [if_pos c30] at H
     have c30b0 : decide (0 < (((rd_T88 l0_0 a2).f3).length : Int)) = true := decide_eq_true c30
     have c30b1 : decide (0 < ((rd_T88 l0_0 a2).f3).length) = true := decide_eq_true (by omega)
     clear c30
     obtain ⟨t286, A310, H⟩ := Option.bind_eq_some_iff.mp H
     try dsimp only at H
     have A31 := As.mk A310
     clear A310
     by_cases c32 : t286 = 1
     rotate_left
     ·
      rw [if_neg c32] at H
      have c32b0 : (t286 == 1) = false := beq_eq_false_iff_ne.mpr c32
      have c32b1 : (t286 != 1) = true := bne_iff_ne.mpr c32
      obtain rfl := Option.some.inj H
      try go_wp2
      replace BK281 := As.mk (blk_drew BK281.out)
      replace BK283 := As.mk (blk_drew BK283.out)
      replace HB := As.mk (below_drew1 HB.out)
      have p285 : 0 ≤ (0 : Int) := (by omega)
      have q285 : 0 < (((rd_T88 l0_0 a2).f3).length : Int) := od
      obtain ⟨ad285, e285, hx285_0⟩ := Kd.at_int HR282_3.out 0 p285 q285
      have hw285_0 := hx285_0
      (try rw [show ((0 : Int)).toNat = 0 from rfl] at hw285_0)
      (try rw [show 0 * 1 = 0 from rfl] at hw285_0)
      (try rw [Addr.add_zero'] at hw285_0)
      cases e285
      have qi285 : (0 < ((rd_T88 l0_0 a2).f3).length) = True := eq_true (by omega)
      (try rw [show ((0 : Int)).toNat = 0 from rfl] at hx285_0)
      (try rw [Addr.add_zero'] at hx285_0)
      replace hx285_0 := ce HB.out hx285_0
      replace p285 := eq_true p285
      replace q285 := eq_true q285
      refine start_ (n := 8) (S := fun w' => w'.cell? ⟨gb281, 0, none⟩ = some (.slice (some ad282) l0_0.length c0_0) ∧ w'.cell? ⟨gb281, 1, none⟩ = some (.slice A0_1 l0_1.length c0_1) ∧ w'.cell? ⟨gb283, 0, none⟩ = some (.int .i64 ((rd_T88 l0_0 a2).f0)) ∧ w'.cell? ⟨gb283, 1, none⟩ = some (.int .i64 ((rd_T88 l0_0 a2).f1)) ∧ w'.cell? ⟨gb283, 2, none⟩ = some (.string ((rd_T88 l0_0 a2).f2)) ∧ w'.cell? ⟨gb283, 3, none⟩ = some (.slice (some ad285) ((rd_T88 l0_0 a2).f3).length c282_3) ∧ w'.cell? ad285 = some (.int .i64 (rd ((rd_T88 l0_0 a2).f3) 0))) (ds := []) #[O, O, O, O, O, O, O, O] (by kernel_rfl) rfl rfl ⟨(blk_cell BK281.out 0).trans rfl, (blk_cell BK281.out 1).trans rfl, (blk_cell BK283.out 0).trans rfl, (blk_cell BK283.out 1).trans rfl, (blk_cell BK283.out 2).trans rfl, (blk_cell BK283.out 3).trans rfl, (ce HB.out hw285_0 :)⟩ (fun hHeld => ?_); refine with_tabW spec_l08Type.tab23 spec_l08Type.bits23 (fun HT_ HW_ => ?_)
      generalize wc.drew = w35 at BK281 BK283 HB hx285_0 hHeld ⊢
      refine pure_ (i := 1) (N := some 56) (v := ?_) (a' := ?_) #[O, I, O, O, O, O, O, O] rfl rfl (any_of HT_.out (by kernel_rfl)) (fun _ _ _ h => h) (Or.inl ⟨by rfl, ?_⟩) ?_ ?_
      rotate_left; · intro w'; go_simp; with_reducible rfl
      rotate_left; · simp only [pk, i64_w, i32_w]; rfl
      refine pure_ (i := 2) (N := some 57) (v := ?_) (a' := ?_) #[O, I, I, O, O, O, O, O] rfl rfl (any_of HT_.out (by kernel_rfl)) (fun _ _ _ h => h) (Or.inl ⟨by rfl, ?_⟩) ?_ ?_
      rotate_left; · intro w'; go_simp; with_reducible rfl
      rotate_left; · simp only [pk, i64_w, i32_w]; rfl
      refine take_ (i := 0) (N := some 55) (v := ?_) (a' := ?_) #[I, I, I, O, O, O, O, O] rfl rfl (take_ofW HT_.out HW_.out (by kernel_rfl)) (fun _ _ _ h => h) (Or.inl ⟨by rfl, ?_⟩) hHeld ?_ ?_
      rotate_left; · rintro w' ⟨s0, s1, s2, s3, s4, s5, s6⟩; go_simp; with_reducible rfl
      rotate_left; · simp only [pk, i64_w, i32_w]; rfl
      refine take_ (i := 3) (N := some 58) (v := ?_) (a' := ?_) #[I, I, I, I, O, O, O, O] rfl rfl (take_ofW HT_.out HW_.out (by kernel_rfl)) (fun _ _ _ h => h) (Or.inl ⟨by rfl, ?_⟩) hHeld ?_ ?_
      rotate_left; · rintro w' ⟨s0, s1, s2, s3, s4, s5, s6⟩; go_simp; with_reducible rfl
      rotate_left; · simp only [pk, i64_w, i32_w]; rfl
      refine pure_ (i := 4) (N := some 59) (v := ?_) (a' := ?_) #[I, I, I, I, I, O, O, O] rfl rfl (any_of HT_.out (by kernel_rfl)) (fun _ _ _ h => h) (Or.inl ⟨by rfl, ?_⟩) ?_ ?_
      rotate_left; · intro w'; go_simp; with_reducible rfl
      rotate_left; · simp only [pk, i64_w, i32_w]; rfl
      refine take_ (i := 5) (N := some 60) (v := ?_) (a' := ?_) #[I, I, I, I, I, I, O, O] rfl rfl (take_ofW HT_.out HW_.out (by kernel_rfl)) (fun _ _ _ h => h) (Or.inl ⟨by rfl, ?_⟩) hHeld ?_ ?_
      rotate_left; · rintro w' ⟨s0, s1, s2, s3, s4, s5, s6⟩; go_simp; with_reducible rfl
      rotate_left; · simp only [pk, i64_w, i32_w]; rfl
      refine one_ (i := 6) (N := some 61) #[I, I, I, I, I, I, I, O] rfl rfl (one_of HT_.out (by kernel_rfl)) (by decide) (fun K hK => ?_)
      refine goes_ Tryd.func74 (by kernel_rfl) rfl #[.agg #[.slice (some ad282) l0_0.length c0_0, .slice A0_1 l0_1.length c0_1], .slice A1 l1.length c1, .int .i64 (rd ((rd_T88 l0_0 a2).f3) 0)] (by rfl) rfl rfl (by (try simp only [lm]); first | done | rfl | (simp only [List.length_drop, List.length_take]; rfl)) ?_
      with_reducible refine (ih kj14 (by have := HJ6.out; have := HJ14.out; omega) _ _ l0_0 _ _ l0_1 _ _ l1 (rd ((rd_T88 l0_0 a2).f3) 0) t286 _ ?side1 ?side2 ?side3 ?side4 ?side5 ?side6 A31.out).mono ?_
      (case side1 => exact Kd.C_below HR0_0.out (be w))
      (case side2 => exact HC0_0.out)
      (case side3 => exact Kd.C_below HR0_1.out (be w))
      (case side4 => exact HC0_1.out)
      (case side5 => exact Kd.C_below HR1.out (be w))
      (case side6 => exact HC1.out)
      rintro e w36 ⟨rfl, hb⟩
      refine ⟨_, rfl, ?_⟩
      replace BK281 := As.mk (blk_below (bx BK281.out) hb)
      replace BK283 := As.mk (blk_below (bx BK283.out) hb)
      replace HB := As.mk (below_step (be w) hb)
      (try clear hb)
      (try clear hb2)
      (try clear hk)
      (try clear hi)
      refine hK.out _ _ ⟨(blk_cell BK281.out 0).trans rfl, (blk_cell BK281.out 1).trans rfl, (blk_cell BK283.out 0).trans rfl, (blk_cell BK283.out 1).trans rfl, (blk_cell BK283.out 2).trans rfl, (blk_cell BK283.out 3).trans rfl, (ce HB.out hw285_0 :)⟩ (fun hHeld => ?_)
      clear hK K
      refine norm_ (a' := ?_) ?_ ?_
      rotate_left
      ·
       show Act.put _ (some 61) _ = _
       simp only [pk, i64_w, i32_w]
       rfl
      refine pure_ (i := 7) (N := some 62) (v := ?_) (a' := ?_) #[I, I, I, I, I, I, I, I] rfl rfl (any_of HT_.out (by kernel_rfl)) (fun _ _ _ h => h) (Or.inl ⟨by rfl, ?_⟩) ?_ ?_
      rotate_left; · intro w'; go_simp; with_reducible rfl
      rotate_left; · simp only [pk, i64_w, i32_w]; rfl
      refine done_ (done_of HT_.out (by kernel_rfl)) ?_
      try go_wp2
      go_ret
      exact (ew (be w))
     rw [if_pos c32] at H
     have c32b0 : (t286 == 1) = true := beq_iff_eq.mpr c32
     have c32b1 : (t286 != 1) = false := bne_eq_false_iff_eq.mpr c32
     clear c32
     obtain rfl := Option.some.inj H
     try go_wp2
     replace BK281 := As.mk (blk_drew BK281.out)
     replace BK283 := As.mk (blk_drew BK283.out)
     replace HB := As.mk (below_drew1 HB.out)
     have p285 : 0 ≤ (0 : Int) := (by omega)
     have q285 : 0 < (((rd_T88 l0_0 a2).f3).length : Int) := od
     obtain ⟨ad285, e285, hx285_0⟩ := Kd.at_int HR282_3.out 0 p285 q285
     have hw285_0 := hx285_0
     (try rw [show ((0 : Int)).toNat = 0 from rfl] at hw285_0)
     (try rw [show 0 * 1 = 0 from rfl] at hw285_0)
     (try rw [Addr.add_zero'] at hw285_0)
     cases e285
     have qi285 : (0 < ((rd_T88 l0_0 a2).f3).length) = True := eq_true (by omega)
     (try rw [show ((0 : Int)).toNat = 0 from rfl] at hx285_0)
     (try rw [Addr.add_zero'] at hx285_0)
     replace hx285_0 := ce HB.out hx285_0
     replace p285 := eq_true p285
     replace q285 := eq_true q285
     refine start_ (n := 8) (S := fun w' => w'.cell? ⟨gb281, 0, none⟩ = some (.slice (some ad282) l0_0.length c0_0) ∧ w'.cell? ⟨gb281, 1, none⟩ = some (.slice A0_1 l0_1.length c0_1) ∧ w'.cell? ⟨gb283, 0, none⟩ = some (.int .i64 ((rd_T88 l0_0 a2).f0)) ∧ w'.cell? ⟨gb283, 1, none⟩ = some (.int .i64 ((rd_T88 l0_0 a2).f1)) ∧ w'.cell? ⟨gb283, 2, none⟩ = some (.string ((rd_T88 l0_0 a2).f2)) ∧ w'.cell? ⟨gb283, 3, none⟩ = some (.slice (some ad285) ((rd_T88 l0_0 a2).f3).length c282_3) ∧ w'.cell? ad285 = some (.int .i64 (rd ((rd_T88 l0_0 a2).f3) 0))) (ds := []) #[O, O, O, O, O, O, O, O] (by kernel_rfl) rfl rfl ⟨(blk_cell BK281.out 0).trans rfl, (blk_cell BK281.out 1).trans rfl, (blk_cell BK283.out 0).trans rfl, (blk_cell BK283.out 1).trans rfl, (blk_cell BK283.out 2).trans rfl, (blk_cell BK283.out 3).trans rfl, (ce HB.out hw285_0 :)⟩ (fun hHeld => ?_); refine with_tabW spec_l08Type.tab23 spec_l08Type.bits23 (fun HT_ HW_ => ?_)
     generalize wc.drew = w33 at BK281 BK283 HB hx285_0 hHeld ⊢
     refine pure_ (i := 1) (N := some 56) (v := ?_) (a' := ?_) #[O, I, O, O, O, O, O, O] rfl rfl (any_of HT_.out (by kernel_rfl)) (fun _ _ _ h => h) (Or.inl ⟨by rfl, ?_⟩) ?_ ?_
     rotate_left; · intro w'; go_simp; with_reducible rfl
     rotate_left; · simp only [pk, i64_w, i32_w]; rfl
     refine pure_ (i := 2) (N := some 57) (v := ?_) (a' := ?_) #[O, I, I, O, O, O, O, O] rfl rfl (any_of HT_.out (by kernel_rfl)) (fun _ _ _ h => h) (Or.inl ⟨by rfl, ?_⟩) ?_ ?_
     rotate_left; · intro w'; go_simp; with_reducible rfl
     rotate_left; · simp only [pk, i64_w, i32_w]; rfl
     refine take_ (i := 0) (N := some 55) (v := ?_) (a' := ?_) #[I, I, I, O, O, O, O, O] rfl rfl (take_ofW HT_.out HW_.out (by kernel_rfl)) (fun _ _ _ h => h) (Or.inl ⟨by rfl, ?_⟩) hHeld ?_ ?_
     rotate_left; · rintro w' ⟨s0, s1, s2, s3, s4, s5, s6⟩; go_simp; with_reducible rfl
     rotate_left; · simp only [pk, i64_w, i32_w]; rfl
     refine take_ (i := 3) (N := some 58) (v := ?_) (a' := ?_) #[I, I, I, I, O, O, O, O] rfl rfl (take_ofW HT_.out HW_.out (by kernel_rfl)) (fun _ _ _ h => h) (Or.inl ⟨by rfl, ?_⟩) hHeld ?_ ?_
     rotate_left; · rintro w' ⟨s0, s1, s2, s3, s4, s5, s6⟩; go_simp; with_reducible rfl
     rotate_left; · simp only [pk, i64_w, i32_w]; rfl
     refine pure_ (i := 4) (N := some 59) (v := ?_) (a' := ?_) #[I, I, I, I, I, O, O, O] rfl rfl (any_of HT_.out (by kernel_rfl)) (fun _ _ _ h => h) (Or.inl ⟨by rfl, ?_⟩) ?_ ?_
     rotate_left; · intro w'; go_simp; with_reducible rfl
     rotate_left; · simp only [pk, i64_w, i32_w]; rfl
     refine take_ (i := 5) (N := some 60) (v := ?_) (a' := ?_) #[I, I, I, I, I, I, O, O] rfl rfl (take_ofW HT_.out HW_.out (by kernel_rfl)) (fun _ _ _ h => h) (Or.inl ⟨by rfl, ?_⟩) hHeld ?_ ?_
     rotate_left; · rintro w' ⟨s0, s1, s2, s3, s4, s5, s6⟩; go_simp; with_reducible rfl
     rotate_left; · simp only [pk, i64_w, i32_w]; rfl
     refine one_ (i := 6) (N := some 61) #[I, I, I, I, I, I, I, O] rfl rfl (one_of HT_.out (by kernel_rfl)) (by decide) (fun K hK => ?_)
     refine goes_ Tryd.func74 (by kernel_rfl) rfl #[.agg #[.slice (some ad282) l0_0.length c0_0, .slice A0_1 l0_1.length c0_1], .slice A1 l1.length c1, .int .i64 (rd ((rd_T88 l0_0 a2).f3) 0)] (by rfl) rfl rfl (by (try simp only [lm]); first | done | rfl | (simp only [List.length_drop, List.length_take]; rfl)) ?_
     with_reducible refine (ih kj14 (by have := HJ6.out; have := HJ14.out; omega) _ _ l0_0 _ _ l0_1 _ _ l1 (rd ((rd_T88 l0_0 a2).f3) 0) t286 _ ?side1 ?side2 ?side3 ?side4 ?side5 ?side6 A31.out).mono ?_
     (case side1 => exact Kd.C_below HR0_0.out (be w))
     (case side2 => exact HC0_0.out)
     (case side3 => exact Kd.C_below HR0_1.out (be w))
     (case side4 => exact HC0_1.out)
     (case side5 => exact Kd.C_below HR1.out (be w))
     (case side6 => exact HC1.out)
     rintro e w34 ⟨rfl, hb⟩
     refine ⟨_, rfl, ?_⟩
     replace BK281 := As.mk (blk_below (bx BK281.out) hb)
     replace BK283 := As.mk (blk_below (bx BK283.out) hb)
     replace HB := As.mk (below_step (be w) hb)
     (try clear hb)
     (try clear hb2)
     (try clear hk)
     (try clear hi)
     refine hK.out _ _ ⟨(blk_cell BK281.out 0).trans rfl, (blk_cell BK281.out 1).trans rfl, (blk_cell BK283.out 0).trans rfl, (blk_cell BK283.out 1).trans rfl, (blk_cell BK283.out 2).trans rfl, (blk_cell BK283.out 3).trans rfl, (ce HB.out hw285_0 :)⟩ (fun hHeld => ?_)
     clear hK K
     refine norm_ (a' := ?_) ?_ ?_
     rotate_left
     ·
      show Act.put _ (some 61) _ = _
      simp only [pk, i64_w, i32_w]
      rfl
     refine pure_ (i := 7) (N := some 62) (v := ?_) (a' := ?_) #[I, I, I, I, I, I, I, I] rfl rfl (any_of HT_.out (by kernel_rfl)) (fun _ _ _ h => h) (Or.inl ⟨by rfl, ?_⟩) ?_ ?_
     rotate_left; · intro w'; go_simp; with_reducible rfl
     rotate_left; · simp only [pk, i64_w, i32_w]; rfl
     refine done_ (done_of HT_.out (by kernel_rfl)) ?_
     try go_wp2
     go_ret
     exact (ew (be w))
theorem spec_l08Type.allO (k : Nat) : spec_l08Two.C k ∧ spec_l08Sig.C k ∧ spec_l08Type.C k := by
  induction k using Nat.strongRecOn with
  | _ k ih => exact ⟨spec_l08Two.callsO k (fun m_ h_ => (ih m_ h_).1) (fun m_ h_ => (ih m_ h_).2.1) (fun m_ h_ => (ih m_ h_).2.2), spec_l08Sig.callsO k (fun m_ h_ => (ih m_ h_).1) (fun m_ h_ => (ih m_ h_).2.1) (fun m_ h_ => (ih m_ h_).2.2), spec_l08Type.callsO k (fun m_ h_ => (ih m_ h_).1) (fun m_ h_ => (ih m_ h_).2.1) (fun m_ h_ => (ih m_ h_).2.2)⟩
theorem spec_l08Two.calls (k : Nat) : ∀ (A0_0 : Option Addr) (c0_0 : Nat) (l0_0 : List (S88)) (A0_1 : Option Addr) (c0_1 : Nat) (l0_1 : List (S125)) (A1 : Option Addr) (c1 : Nat) (l1 : List (S100)) (a2 : Int) (r : Bool) (w : World) (hr0_0 : Kd.C k88 w A0_0 l0_0.length l0_0) (hc0_0 : l0_0.length ≤ c0_0) (hr0_1 : Kd.C k125 w A0_1 l0_1.length l0_1) (hc0_1 : l0_1.length ≤ c0_1) (hr1 : Kd.C k100 w A1 l1.length l1) (hc1 : l1.length ≤ c1) (h : spec_l08Two.f k l0_0 l0_1 l1 a2 = some r),
  Calls Tryd.prog 99 #[.agg #[.slice A0_0 l0_0.length c0_0, .slice A0_1 l0_1.length c0_1], .slice A1 l1.length c1, .int .i64 a2] w fun e w' => e = .returned (.bool r) ∧ Below w.heap.size w w' := (spec_l08Type.allO k).1
theorem spec_l08Sig.calls (k : Nat) : ∀ (A0_0 : Option Addr) (c0_0 : Nat) (l0_0 : List (S88)) (P0_1_ : Nat → Prop) (A0_1 : Option Addr) (c0_1 : Nat) (l0_1 : List (S125)) (A1 : Option Addr) (c1 : Nat) (l1 : List (S100)) (a2 : Int) (r1 : ByteArray) (r2 : List (S147)) (r3 : Int) (r4 : Int) (r5 : Int) (r6 : Bool) (w : World) (hr0_0 : Kd.C k88 w A0_0 l0_0.length l0_0) (hc0_0 : l0_0.length ≤ c0_0) (hs0_1 : Kd.V k125 125 w w.heap.size (fun k_ => P0_1_ k_) (.slice A0_1 l0_1.length c0_1) l0_1) (hr1 : Kd.C k100 w A1 l1.length l1) (hc1 : l1.length ≤ c1) (h : spec_l08Sig.f k l0_0 l0_1 l1 a2 = some (r1, r2, r3, r4, r5, r6)),
  Calls Tryd.prog 100 #[.agg #[.slice A0_0 l0_0.length c0_0, .slice A0_1 l0_1.length c0_1], .slice A1 l1.length c1, .int .i64 a2] w fun e w' => ∃ v1_ : Value, e = .returned (.tuple #[.agg #[.string r1, v1_, .int .i64 r3, .int .i64 r4, .int .i64 r5], .bool r6]) ∧ Kd.V k147 147 w' w.heap.size (fun k_ => (P0_1_ k_ ∨ w.heap.size ≤ k_)) v1_ r2 ∧ Below w.heap.size w w' := (spec_l08Type.allO k).2.1
theorem spec_l08Type.calls (k : Nat) : ∀ (A0_0 : Option Addr) (c0_0 : Nat) (l0_0 : List (S88)) (A0_1 : Option Addr) (c0_1 : Nat) (l0_1 : List (S125)) (A1 : Option Addr) (c1 : Nat) (l1 : List (S100)) (a2 : Int) (r : Int) (w : World) (hr0_0 : Kd.C k88 w A0_0 l0_0.length l0_0) (hc0_0 : l0_0.length ≤ c0_0) (hr0_1 : Kd.C k125 w A0_1 l0_1.length l0_1) (hc0_1 : l0_1.length ≤ c0_1) (hr1 : Kd.C k100 w A1 l1.length l1) (hc1 : l1.length ≤ c1) (h : spec_l08Type.f k l0_0 l0_1 l1 a2 = some r),
  Calls Tryd.prog 74 #[.agg #[.slice A0_0 l0_0.length c0_0, .slice A0_1 l0_1.length c0_1], .slice A1 l1.length c1, .int .i64 a2] w fun e w' => e = .returned (.int .i64 r) ∧ Below w.heap.size w w' := (spec_l08Type.allO k).2.2

end Go.Proofs.YtcoapbnbakmkoaaDoor.PFnExactTypeOf
