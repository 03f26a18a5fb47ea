/- Written by a program of this session (a turned copy of the kit's print): a contract for each Go function. No condition beside those in each statement. -/
import Derived.Test.YtnepkmbknoanjaaDoorPFnExactCopyNodesx0
import Derived.Test.YtnepkmbknoanjaaDoorPFnExactCopyNodesx1
import Derived.Test.YtnepkmbknoanjaaDoorPFnExactCopyNodesx5
import Derived.Test.YtnepkmbknoanjaaDoorPFnExactCopyNodesx8
import Derived.Test.YtnepkmbknoanjaaDoorPFnExactCopyNodesx9
import Derived.Test.YtnepkmbknoanjaaDoorPFnExactCopyNodesx10
import Derived.Test.YtnepkmbknoanjaaDoorPFnExactCopyNodesx11
import Derived.Test.YtnepkmbknoanjaaDoorPFnExactCopyNodesx12
import Derived.Test.YtnepkmbknoanjaaDoorPFnExactCopyNodesx13
namespace Go.Proofs.YtnepkmbknoanjaaDoor.PFnExactCopyNodes
open Go.RowKit Go.Proofs.YtnepkmbknoanjaaDoor.Given Go.Proofs.YtnepkmbknoanjaaDoorW.PrintWords Go.Proofs.YtnepkmbknoanjaaDoorW.PrintLast Go.Proofs.YtnepkmbknoanjaaDoorW.PrintMore
attribute [local go_sem] max2_int min2_int max_two min_two max_three min_three max_four min_four   -- for this text's walks alone
set_option linter.unusedVariables false
set_option linter.unusedSimpArgs false

/-! spans of the heap -/
theorem sp_cut {W w' : World} (hb : Below W.heap.size W w') : ∃ n : Nat, n = W.heap.size := ⟨_, rfl⟩
theorem sp_new {α : Type} {d : Kd α} {e n base : Nat} {w' : World} {ok : Nat → Prop} {v : Value} {xs : List α} (hn : n = base) (h : Kd.S d e w' base ok v xs) : Kd.S d e w' base (fun k_ => n ≤ k_) v xs := Kd.S_mono (Kd.S_bound h) (fun k h => by rw [hn]; exact h.2.1)
theorem sp_any {α : Type} {d : Kd α} {e base : Nat} {w' : World} {ok : Nat → Prop} {v : Value} {xs : List α} (h : Kd.S d e w' base ok v xs) : Kd.S d e w' base (fun k_ => 0 ≤ k_) v xs := Kd.S_mono h (fun k _ => Nat.zero_le k)
theorem sp_old {α : Type} {d : Kd α} {e n base : Nat} {W w' : World} {ok : Nat → Prop} {v : Value} {xs : List α} (hn : n = W.heap.size) (h : Kd.S d e W base ok v xs) (hb : Below W.heap.size W w') : Kd.S d e w' base (fun k_ => ok k_ ∧ k_ < n) v xs :=
  Kd.S_mono (Kd.S_below (Kd.S_bound h) hb) (fun k h => ⟨h.1, by rw [hn]; exact h.2.2.1⟩)
/-! ### laws_FnExactCopyNodes: function 3 -/
mutual
def laws_FnExactCopyNodes.j0 : Nat → Int → List (S45) → List (S52) → Int → List (S52) → List (S52) → Int → Bool → List (S45) → List (S64) → List (S52) → List (S69) → Option (Bool)
 | 0, _, _, _, _, _, _, _, _, _, _, _, _ => none
 | k + 1, x1, x2, x8, x9, x11, x12, x13, x57, x357000, x357001, x379000, x379001 => if x57 = true then (some false) else ((laws_toProgram.f k x357000 x357001).bind fun bt387 => ((laws_eqProgram.f k x379000 x379001 bt387.1 bt387.2).bind fun t393 => (if t393 = true then ((laws_toNodeS.f k x2).bind fun t394 => ((laws_eqNodeS.f k x11 t394).bind fun t397 => (if t397 = true then ((laws_markProgram.f x379000 x379001 1).bind fun t398 => ((laws_markNodeS.f x11 t398).bind fun bt399 => (if bt399.1 < 0 then (laws_FnExactCopyNodes.j1 k x1 x2 x8 x9 x12 true x357000 x357001) else ((laws_eqNodeS.f k x12 x8).bind fun t401 => (if t401 = true then (laws_FnExactCopyNodes.j1 k x1 x2 x8 x9 x12 (x13 != x9) x357000 x357001) else (laws_FnExactCopyNodes.j1 k x1 x2 x8 x9 x12 true x357000 x357001)))))) else (some false)))) else (some false))))
def laws_FnExactCopyNodes.j1 : Nat → Int → List (S45) → List (S52) → Int → List (S52) → Bool → List (S45) → List (S64) → Option (Bool)
 | 0, _, _, _, _, _, _, _, _ => none
 | k + 1, x1, x2, x8, x9, x12, x86, x357000, x357001 => if x86 = true then (some false) else ((laws_markNodeS.f x12 1).bind fun bt402 => ((laws_heldNodeS.f k bt402.2 1).bind fun t404 => (if t404 < 0 then (some false) else (if t404 = bt402.1 then ((laws_toProgram.f k x357000 x357001).bind fun bt405 => ((laws_toNodeS.f k x2).bind fun t411 => ((impl_CopyNodes.f k bt405.1 bt405.2 x1 t411).bind fun bt414 => ((laws_eqNodeS.f k bt414.1 x8).bind fun t418 => (if t418 = true then (laws_FnExactCopyNodes.j2 k bt402.2 bt402.1 (bt414.2 != x9)) else (laws_FnExactCopyNodes.j2 k bt402.2 bt402.1 true)))))) else (some false)))))
def laws_FnExactCopyNodes.j2 : Nat → List (S52) → Int → Bool → Option (Bool)
 | 0, _, _, _ => none
 | k + 1, x12, x15, x115 => if x115 = true then (some false) else ((laws_heldNodeS.f k x12 1).bind fun t419 => (if t419 < 0 then (some false) else (if t419 = x15 then (some true) else (some false))))
end
def laws_FnExactCopyNodes.f (k : Nat) (l0_0 : List (S45)) (l0_1 : List (S64)) (a1 : Int) (l2 : List (S45)) : Option (Bool) := (laws_szProgram.f k l0_0 l0_1 1048576).bind fun t357 => (if t357 < 0 then (some true) else ((laws_szNodeS.f k l2 t357).bind fun t358 => (if t358 < 0 then (some true) else ((laws_toProgram.f k l0_0 l0_1).bind fun bt359 => ((laws_toNodeS.f k l2).bind fun t365 => ((spec_CopyNodes.f k bt359.1 bt359.2 a1 t365).bind fun bt368 => ((laws_toProgram.f k l0_0 l0_1).bind fun bt372 => ((laws_toNodeS.f k l2).bind fun t379 => ((impl_CopyNodes.f k bt372.1 bt372.2 a1 t379).bind fun bt382 => ((laws_eqNodeS.f k bt382.1 bt368.1).bind fun t386 => (if t386 = true then (laws_FnExactCopyNodes.j0 k a1 l2 bt368.1 bt368.2 t379 bt382.1 bt382.2 (bt382.2 != bt368.2) l0_0 l0_1 bt372.1 bt372.2) else (laws_FnExactCopyNodes.j0 k a1 l2 bt368.1 bt368.2 t379 bt382.1 bt382.2 true l0_0 l0_1 bt372.1 bt372.2))))))))))))
theorem laws_FnExactCopyNodes.mono_l : ∀ k, (∀ y0 y1 y2 y3 y4 y5 y6 y7 y8 y9 y10 y11, LeO (laws_FnExactCopyNodes.j0 k y0 y1 y2 y3 y4 y5 y6 y7 y8 y9 y10 y11) (laws_FnExactCopyNodes.j0 (k + 1) y0 y1 y2 y3 y4 y5 y6 y7 y8 y9 y10 y11)) ∧ (∀ y0 y1 y2 y3 y4 y5 y6 y7, LeO (laws_FnExactCopyNodes.j1 k y0 y1 y2 y3 y4 y5 y6 y7) (laws_FnExactCopyNodes.j1 (k + 1) y0 y1 y2 y3 y4 y5 y6 y7)) ∧ (∀ y0 y1 y2, LeO (laws_FnExactCopyNodes.j2 k y0 y1 y2) (laws_FnExactCopyNodes.j2 (k + 1) y0 y1 y2))
 | 0 => ⟨fun _ _ _ _ _ _ _ _ _ _ _ _ r h => by simp [laws_FnExactCopyNodes.j0] at h, fun _ _ _ _ _ _ _ _ r h => by simp [laws_FnExactCopyNodes.j1] at h, fun _ _ _ r h => by simp [laws_FnExactCopyNodes.j2] at h⟩
 | k + 1 => by
  obtain ⟨ih0, ih1, ih2⟩ := laws_FnExactCopyNodes.mono_l k
  refine ⟨?_, ?_, ?_⟩
  ·
   intro y0 y1 y2 y3 y4 y5 y6 y7 y8 y9 y10 y11
   unfold laws_FnExactCopyNodes.j0
   with_reducible repeat' first | exact ih0 _ _ _ _ _ _ _ _ _ _ _ _ | exact ih1 _ _ _ _ _ _ _ _ | exact ih2 _ _ _ | exact impl_CopyNodes.mono _ _ _ _ _ | exact laws_eqNodeS.mono _ _ _ | exact laws_eqProgram.mono _ _ _ _ _ | exact laws_heldNodeS.mono _ _ _ | exact laws_szNodeS.mono _ _ _ | exact laws_szProgram.mono _ _ _ _ | exact laws_toNodeS.mono _ _ | exact laws_toProgram.mono _ _ _ | exact spec_CopyNodes.mono _ _ _ _ _ | exact LeO.refl _ | exact LeO.none _ | refine LeO.ite ?_ ?_ | refine LeO.bind ?_ (fun _ => ?_)
  ·
   intro y0 y1 y2 y3 y4 y5 y6 y7
   unfold laws_FnExactCopyNodes.j1
   with_reducible repeat' first | exact ih0 _ _ _ _ _ _ _ _ _ _ _ _ | exact ih1 _ _ _ _ _ _ _ _ | exact ih2 _ _ _ | exact impl_CopyNodes.mono _ _ _ _ _ | exact laws_eqNodeS.mono _ _ _ | exact laws_eqProgram.mono _ _ _ _ _ | exact laws_heldNodeS.mono _ _ _ | exact laws_szNodeS.mono _ _ _ | exact laws_szProgram.mono _ _ _ _ | exact laws_toNodeS.mono _ _ | exact laws_toProgram.mono _ _ _ | exact spec_CopyNodes.mono _ _ _ _ _ | exact LeO.refl _ | exact LeO.none _ | refine LeO.ite ?_ ?_ | refine LeO.bind ?_ (fun _ => ?_)
  ·
   intro y0 y1 y2
   unfold laws_FnExactCopyNodes.j2
   with_reducible repeat' first | exact ih0 _ _ _ _ _ _ _ _ _ _ _ _ | exact ih1 _ _ _ _ _ _ _ _ | exact ih2 _ _ _ | exact impl_CopyNodes.mono _ _ _ _ _ | exact laws_eqNodeS.mono _ _ _ | exact laws_eqProgram.mono _ _ _ _ _ | exact laws_heldNodeS.mono _ _ _ | exact laws_szNodeS.mono _ _ _ | exact laws_szProgram.mono _ _ _ _ | exact laws_toNodeS.mono _ _ | exact laws_toProgram.mono _ _ _ | exact spec_CopyNodes.mono _ _ _ _ _ | exact LeO.refl _ | exact LeO.none _ | refine LeO.ite ?_ ?_ | refine LeO.bind ?_ (fun _ => ?_)
theorem laws_FnExactCopyNodes.mono : ∀ a0 a1 a2 a3 k, LeO (laws_FnExactCopyNodes.f k a0 a1 a2 a3) (laws_FnExactCopyNodes.f (k + 1) a0 a1 a2 a3) := by
 intro a0 a1 a2 a3 k
 obtain ⟨ih0, ih1, ih2⟩ := laws_FnExactCopyNodes.mono_l k
 unfold laws_FnExactCopyNodes.f
 with_reducible repeat' first | exact ih0 _ _ _ _ _ _ _ _ _ _ _ _ | exact ih1 _ _ _ _ _ _ _ _ | exact ih2 _ _ _ | exact impl_CopyNodes.mono _ _ _ _ _ | exact laws_eqNodeS.mono _ _ _ | exact laws_eqProgram.mono _ _ _ _ _ | exact laws_heldNodeS.mono _ _ _ | exact laws_szNodeS.mono _ _ _ | exact laws_szProgram.mono _ _ _ _ | exact laws_toNodeS.mono _ _ | exact laws_toProgram.mono _ _ _ | exact spec_CopyNodes.mono _ _ _ _ _ | exact LeO.refl _ | exact LeO.none _ | refine LeO.ite ?_ ?_ | refine LeO.bind ?_ (fun _ => ?_)
set_option maxHeartbeats 8000000 in
set_option maxRecDepth 100000 in
theorem laws_FnExactCopyNodes.calls (k : Nat) (A0_0 : Option Addr) (c0_0 : Nat) (l0_0 : List (S45)) (A0_1 : Option Addr) (c0_1 : Nat) (l0_1 : List (S64)) (a1 : Int) (A2 : Option Addr) (c2 : Nat) (l2 : List (S45)) (r : Bool) (w : World) (hr0_0 : Kd.C k45 w A0_0 l0_0.length l0_0) (hc0_0 : l0_0.length ≤ c0_0) (hr0_1 : Kd.C k64 w A0_1 l0_1.length l0_1) (hc0_1 : l0_1.length ≤ c0_1) (hr2 : Kd.C k45 w A2 l2.length l2) (hc2 : l2.length ≤ c2) (hrt : As (r = true)) (h : laws_FnExactCopyNodes.f k l0_0 l0_1 a1 l2 = some r) :
  Calls Tryd.prog 3 #[.agg #[.slice A0_0 l0_0.length c0_0, .slice A0_1 l0_1.length c0_1], .int .i64 a1, .slice A2 l2.length c2] w fun e w' => e = .returned (.bool r) ∧ Below w.heap.size w w' := by
 have hu25 := Tryd.underlying25
 have hu33 := Tryd.underlying33
 have HR0_0 := As.mk hr0_0
 have HC0_0 := As.mk hc0_0
 clear hr0_0 hc0_0
 have HR0_1 := As.mk hr0_1
 have HC0_1 := As.mk hc0_1
 clear hr0_1 hc0_1
 have HR2 := As.mk hr2
 have HC2 := As.mk hc2
 clear hr2 hc2
 have HB := As.mk (Below.refl w.heap.size w)
 have H : ((laws_szProgram.f k l0_0 l0_1 1048576).bind fun t357 => (if t357 < 0 then (some true) else ((laws_szNodeS.f k l2 t357).bind fun t358 => (if t358 < 0 then (some true) else ((laws_toProgram.f k l0_0 l0_1).bind fun bt359 => ((laws_toNodeS.f k l2).bind fun t365 => ((spec_CopyNodes.f k bt359.1 bt359.2 a1 t365).bind fun bt368 => ((laws_toProgram.f k l0_0 l0_1).bind fun bt372 => ((laws_toNodeS.f k l2).bind fun t379 => ((impl_CopyNodes.f k bt372.1 bt372.2 a1 t379).bind fun bt382 => ((laws_eqNodeS.f k bt382.1 bt368.1).bind fun t386 => (if t386 = true then (laws_FnExactCopyNodes.j0 k a1 l2 bt368.1 bt368.2 t379 bt382.1 bt382.2 (bt382.2 != bt368.2) l0_0 l0_1 bt372.1 bt372.2) else (laws_FnExactCopyNodes.j0 k a1 l2 bt368.1 bt368.2 t379 bt382.1 bt382.2 true l0_0 l0_1 bt372.1 bt372.2))))))))))))) = some r := h
 clear h
 obtain ⟨t357, A40, H⟩ := Option.bind_eq_some_iff.mp H
 try dsimp only at H
 have A4 := As.mk A40
 clear A40
 by_cases c5 : t357 < 0
 ·
  rw [if_pos c5] at H
  have c5b0 : decide (t357 < 0) = true := decide_eq_true c5
  clear c5
  obtain rfl := Option.some.inj H
  go_enter Tryd.func3, Tryd.ntmps3
  go_wp2_with (first | ((with_reducible refine gate_dst (N := 3) rfl ?_); refine box_event ?hg (N := 3) ?hd (cs := #[.slice A0_0 l0_0.length c0_0, .slice A0_1 l0_1.length c0_1]) (t := 25) ?hr ?_; (case hd => rfl); (case hg => rfl); (case hr => first | (go_simp; done) | (go_simp; rfl)); intro gb356 hg w6 hbox hb; have BK356 := As.mk (hbox); have GW356 := As.mk (gs w hg); have GE356 := As.mk (gs w hg); replace HB := As.mk (below_step (be w) hb); clear hb hbox hg; obtain ⟨hcz7_0, hcz7_1, hfz7_0, hfz7_1⟩ := cl2 BK356.out) | ((with_reducible refine gate_callee (f := 4) rfl ?_); refine goesL_ (some 21) rfl rfl Tryd.func4 (by kernel_rfl) rfl #[.agg #[.slice A0_0 l0_0.length c0_0, .slice A0_1 l0_1.length c0_1], .int .i64 1048576] rfl (by (try simp only [lm]); first | done | rfl | (simp only [List.length_drop, List.length_take]; rfl)) ?_; (with_reducible refine (laws_szProgram.calls k _ _ l0_0 _ _ l0_1 1048576 t357 _ ?side1 ?side2 ?side3 ?side4 A4.out).mono ?_); (case side1 => exact Kd.C_below HR0_0.out (be w)); (case side2 => exact HC0_0.out); (case side3 => exact Kd.C_below HR0_1.out (be w)); (case side4 => exact HC0_1.out); rintro e w8 ⟨rfl, hb⟩; refine ⟨_, rfl, ?_⟩; replace HB := As.mk (below_step (be w) hb); (try clear hb); (try clear hb2); (try clear hk); (try clear hi)))
  go_ret
  exact ⟨ez, be w⟩
 rw [if_neg c5] at H
 have c5b0 : decide (t357 < 0) = false := decide_eq_false c5
 clear c5
 obtain ⟨t358, A90, H⟩ := Option.bind_eq_some_iff.mp H
 try dsimp only at H
 have A9 := As.mk A90
 clear A90
 by_cases c10 : t358 < 0
 ·
  rw [if_pos c10] at H
  have c10b0 : decide (t358 < 0) = true := decide_eq_true c10
  clear c10
  obtain rfl := Option.some.inj H
  go_enter Tryd.func3, Tryd.ntmps3
  go_wp2_with (first | ((with_reducible refine gate_dst (N := 3) rfl ?_); refine box_event ?hg (N := 3) ?hd (cs := #[.slice A0_0 l0_0.length c0_0, .slice A0_1 l0_1.length c0_1]) (t := 25) ?hr ?_; (case hd => rfl); (case hg => rfl); (case hr => first | (go_simp; done) | (go_simp; rfl)); intro gb356 hg w11 hbox hb; have BK356 := As.mk (hbox); have GW356 := As.mk (gs w hg); have GE356 := As.mk (gs w hg); replace HB := As.mk (below_step (be w) hb); clear hb hbox hg; obtain ⟨hcz12_0, hcz12_1, hfz12_0, hfz12_1⟩ := cl2 BK356.out) | ((with_reducible refine gate_callee (f := 4) rfl ?_); refine goesL_ (some 21) rfl rfl Tryd.func4 (by kernel_rfl) rfl #[.agg #[.slice A0_0 l0_0.length c0_0, .slice A0_1 l0_1.length c0_1], .int .i64 1048576] rfl (by (try simp only [lm]); first | done | rfl | (simp only [List.length_drop, List.length_take]; rfl)) ?_; (with_reducible refine (laws_szProgram.calls k _ _ l0_0 _ _ l0_1 1048576 t357 _ ?side1 ?side2 ?side3 ?side4 A4.out).mono ?_); (case side1 => exact Kd.C_below HR0_0.out (be w)); (case side2 => exact HC0_0.out); (case side3 => exact Kd.C_below HR0_1.out (be w)); (case side4 => exact HC0_1.out); rintro e w13 ⟨rfl, hb⟩; refine ⟨_, rfl, ?_⟩; replace HB := As.mk (below_step (be w) hb); (try clear hb); (try clear hb2); (try clear hk); (try clear hi)) | ((with_reducible refine gate_callee (f := 5) rfl ?_); refine goesL_ (some 26) rfl rfl Tryd.func5 (by kernel_rfl) rfl #[.slice A2 l2.length c2, .int .i64 t357] rfl (by (try simp only [lm]); first | done | rfl | (simp only [List.length_drop, List.length_take]; rfl)) ?_; (with_reducible refine (laws_szNodeS.calls k _ _ l2 t357 t358 _ ?side1 ?side2 A9.out).mono ?_); (case side1 => exact Kd.C_below HR2.out (be w)); (case side2 => exact HC2.out); rintro e w14 ⟨rfl, hb⟩; refine ⟨_, rfl, ?_⟩; replace HB := As.mk (below_step (be w) hb); (try clear hb); (try clear hb2); (try clear hk); (try clear hi)))
  go_ret
  exact ⟨ez, be w⟩
 rw [if_neg c10] at H
 have c10b0 : decide (t358 < 0) = false := decide_eq_false c10
 clear c10
 obtain ⟨⟨t359, t362⟩, A150, H⟩ := Option.bind_eq_some_iff.mp H
 try dsimp only at H
 have A15 := As.mk A150
 clear A150
 obtain ⟨t365, A160, H⟩ := Option.bind_eq_some_iff.mp H
 try dsimp only at H
 have A16 := As.mk A160
 clear A160
 obtain ⟨⟨t368, t371⟩, A170, H⟩ := Option.bind_eq_some_iff.mp H
 try dsimp only at H
 have A17 := As.mk A170
 clear A170
 obtain ⟨⟨t372, t375⟩, A180, H⟩ := Option.bind_eq_some_iff.mp H
 try dsimp only at H
 have A18 := As.mk A180
 clear A180
 obtain ⟨t379, A190, H⟩ := Option.bind_eq_some_iff.mp H
 try dsimp only at H
 have A19 := As.mk A190
 clear A190
 obtain ⟨⟨t382, t385⟩, A200, H⟩ := Option.bind_eq_some_iff.mp H
 try dsimp only at H
 have A20 := As.mk A200
 clear A200
 have HC21 := As.mk H
 clear H
 go_enter Tryd.func3, Tryd.ntmps3
 go_upto_region 12 with (first | ((with_reducible refine gate_dst (N := 3) rfl ?_); refine box_event ?hg (N := 3) ?hd (cs := #[.slice A0_0 l0_0.length c0_0, .slice A0_1 l0_1.length c0_1]) (t := 25) ?hr ?_; (case hd => rfl); (case hg => rfl); (case hr => first | (go_simp; done) | (go_simp; rfl)); intro gb356 hg w22 hbox hb; have BK356 := As.mk (hbox); have GW356 := As.mk (gs w hg); have GE356 := As.mk (gs w hg); replace HB := As.mk (below_step (be w) hb); clear hb hbox hg; obtain ⟨hcz23_0, hcz23_1, hfz23_0, hfz23_1⟩ := cl2 BK356.out) | ((with_reducible refine gate_callee (f := 4) rfl ?_); refine goesL_ (some 21) rfl rfl Tryd.func4 (by kernel_rfl) rfl #[.agg #[.slice A0_0 l0_0.length c0_0, .slice A0_1 l0_1.length c0_1], .int .i64 1048576] rfl (by (try simp only [lm]); first | done | rfl | (simp only [List.length_drop, List.length_take]; rfl)) ?_; (with_reducible refine (laws_szProgram.calls k _ _ l0_0 _ _ l0_1 1048576 t357 _ ?side1 ?side2 ?side3 ?side4 A4.out).mono ?_); (case side1 => exact Kd.C_below HR0_0.out (be w)); (case side2 => exact HC0_0.out); (case side3 => exact Kd.C_below HR0_1.out (be w)); (case side4 => exact HC0_1.out); rintro e w24 ⟨rfl, hb⟩; refine ⟨_, rfl, ?_⟩; replace BK356 := As.mk (blk_below (bx BK356.out) hb); replace HB := As.mk (below_step (be w) hb); (try clear hb); (try clear hb2); (try clear hk); (try clear hi)) | ((with_reducible refine gate_callee (f := 5) rfl ?_); refine goesL_ (some 26) rfl rfl Tryd.func5 (by kernel_rfl) rfl #[.slice A2 l2.length c2, .int .i64 t357] rfl (by (try simp only [lm]); first | done | rfl | (simp only [List.length_drop, List.length_take]; rfl)) ?_; (with_reducible refine (laws_szNodeS.calls k _ _ l2 t357 t358 _ ?side1 ?side2 A9.out).mono ?_); (case side1 => exact Kd.C_below HR2.out (be w)); (case side2 => exact HC2.out); rintro e w25 ⟨rfl, hb⟩; refine ⟨_, rfl, ?_⟩; replace BK356 := As.mk (blk_below (bx BK356.out) hb); replace HB := As.mk (below_step (be w) hb); (try clear hb); (try clear hb2); (try clear hk); (try clear hi); obtain ⟨hcz26_0, hcz26_1, hfz26_0, hfz26_1⟩ := cl2 BK356.out) | ((with_reducible refine gate_callee (f := 7) rfl ?_); refine goesL_ (some 31) rfl rfl Tryd.func7 (by kernel_rfl) rfl #[.agg #[.slice A0_0 l0_0.length c0_0, .slice A0_1 l0_1.length c0_1]] rfl (by (try simp only [lm]); first | done | rfl | (simp only [List.length_drop, List.length_take]; rfl)) ?_; (with_reducible refine (laws_toProgram.calls k _ _ l0_0 _ _ l0_1 t359 t362 _ ?side1 ?side2 ?side3 ?side4 A15.out).mono ?_); (case side1 => exact Kd.C_below HR0_0.out (be w)); (case side2 => exact HC0_0.out); (case side3 => exact Kd.C_below HR0_1.out (be w)); (case side4 => exact HC0_1.out); rintro e w27 ⟨v360, v363, rfl, ho0, ho1, hb⟩; refine ⟨_, rfl, ?_⟩; have HO361 := As.mk (Kd.S_lower (sp_any ho0) (below_size (be w))); have HO364 := As.mk (Kd.S_lower (sp_any ho1) (below_size (be w))); replace BK356 := As.mk (blk_below (bx BK356.out) hb); replace HB := As.mk (below_step (be w) hb); (try clear hb); (try clear hb2); (try clear hk); (try clear hi); (try clear ho0); (try clear ho1)) | ((with_reducible refine gate_callee (f := 8) rfl ?_); refine goesL_ (some 34) rfl rfl Tryd.func8 (by kernel_rfl) rfl #[.slice A2 l2.length c2] rfl (by (try simp only [lm]); first | done | rfl | (simp only [List.length_drop, List.length_take]; rfl)) ?_; (with_reducible refine (laws_toNodeS.calls k _ _ l2 t365 _ ?side1 ?side2 A16.out).mono ?_); (case side1 => exact Kd.C_below HR2.out (be w)); (case side2 => exact HC2.out); rintro e w28 ⟨v366, rfl, ho0, hb⟩; refine ⟨_, rfl, ?_⟩; replace HO364 := As.mk (Kd.S_below (by (with_reducible repeat (first | apply Kd.S_alloc | apply Kd.S_drewN | apply Kd.S_drew)); exact HO364.out) hb); have HO367 := As.mk (Kd.S_lower (sp_any ho0) (below_size (be w))); replace HO361 := As.mk (Kd.S_below (by (with_reducible repeat (first | apply Kd.S_alloc | apply Kd.S_drewN | apply Kd.S_drew)); exact HO361.out) hb); replace BK356 := As.mk (blk_below (bx BK356.out) hb); replace HB := As.mk (below_step (be w) hb); (try clear hb); (try clear hb2); (try clear hk); (try clear hi); (try clear ho0); obtain ⟨Ao29, co29, eo29⟩ := Kd.S_slice HO361.out; subst eo29; obtain ⟨Ao30, co30, eo30⟩ := Kd.S_slice HO364.out; subst eo30; obtain ⟨Ao31, co31, eo31⟩ := Kd.S_slice HO367.out; subst eo31) | ((with_reducible refine gate_callee (f := 6) rfl ?_); refine goesL_ (some 35) rfl rfl Tryd.func6 (by kernel_rfl) rfl #[.agg #[.slice Ao29 t359.length co29, .slice Ao30 t362.length co30], .int .i64 a1, .slice Ao31 t365.length co31] rfl (by (try simp only [lm]); first | done | rfl | (simp only [List.length_drop, List.length_take]; rfl)) ?_; (with_reducible refine (spec_CopyNodes.calls k _ _ t359 _ _ t362 a1 _ _ t365 t368 t371 _ ?side1 ?side2 ?side3 ?side4 ?side5 ?side6 A17.out).mono ?_); (case side1 => repeat (first | exact (Kd.S_reads' HO361.out).2.2 | (with_reducible refine Kd.C_alloc ?_ _) | (with_reducible refine Kd.C_drewN ?_ _) | (with_reducible refine Kd.C_drew ?_))); (case side2 => exact (Kd.S_reads' HO361.out).2.1); (case side3 => repeat (first | exact (Kd.S_reads' HO364.out).2.2 | (with_reducible refine Kd.C_alloc ?_ _) | (with_reducible refine Kd.C_drewN ?_ _) | (with_reducible refine Kd.C_drew ?_))); (case side4 => exact (Kd.S_reads' HO364.out).2.1); (case side5 => repeat (first | exact (Kd.S_reads' HO367.out).2.2 | (with_reducible refine Kd.C_alloc ?_ _) | (with_reducible refine Kd.C_drewN ?_ _) | (with_reducible refine Kd.C_drew ?_))); (case side6 => exact (Kd.S_reads' HO367.out).2.1); rintro e w32 ⟨v369, rfl, ho0, hb⟩; refine ⟨_, rfl, ?_⟩; replace HO364 := As.mk (Kd.S_below (by (with_reducible repeat (first | apply Kd.S_alloc | apply Kd.S_drewN | apply Kd.S_drew)); exact HO364.out) hb); have HO370 := As.mk (Kd.S_lower (sp_any ho0) (below_size (be w))); replace HO361 := As.mk (Kd.S_below (by (with_reducible repeat (first | apply Kd.S_alloc | apply Kd.S_drewN | apply Kd.S_drew)); exact HO361.out) hb); replace HO367 := As.mk (Kd.S_below (by (with_reducible repeat (first | apply Kd.S_alloc | apply Kd.S_drewN | apply Kd.S_drew)); exact HO367.out) hb); replace BK356 := As.mk (blk_below (bx BK356.out) hb); replace HB := As.mk (below_step (be w) hb); (try clear hb); (try clear hb2); (try clear hk); (try clear hi); (try clear ho0); obtain ⟨hcz33_0, hcz33_1, hfz33_0, hfz33_1⟩ := cl2 BK356.out) | ((with_reducible refine gate_callee (f := 7) rfl ?_); refine goesL_ (some 39) rfl rfl Tryd.func7 (by kernel_rfl) rfl #[.agg #[.slice A0_0 l0_0.length c0_0, .slice A0_1 l0_1.length c0_1]] rfl (by (try simp only [lm]); first | done | rfl | (simp only [List.length_drop, List.length_take]; rfl)) ?_; (with_reducible refine (laws_toProgram.calls k _ _ l0_0 _ _ l0_1 t372 t375 _ ?side1 ?side2 ?side3 ?side4 A18.out).mono ?_); (case side1 => exact Kd.C_below HR0_0.out (be w)); (case side2 => exact HC0_0.out); (case side3 => exact Kd.C_below HR0_1.out (be w)); (case side4 => exact HC0_1.out); rintro e w34 ⟨v373, v376, rfl, ho0, ho1, hb⟩; refine ⟨_, rfl, ?_⟩; obtain ⟨n1, hn1⟩ := sp_cut hb; have HO374 := As.mk (Kd.S_lower (sp_new hn1 ho0) (below_size (be w))); replace HO367 := As.mk (sp_old hn1 (by (with_reducible repeat (first | apply Kd.S_alloc | apply Kd.S_drewN | apply Kd.S_drew)); exact HO367.out) hb); replace HO370 := As.mk (sp_old hn1 (by (with_reducible repeat (first | apply Kd.S_alloc | apply Kd.S_drewN | apply Kd.S_drew)); exact HO370.out) hb); have HO377 := As.mk (Kd.S_lower (sp_new hn1 ho1) (below_size (be w))); replace BK356 := As.mk (blk_below (bx BK356.out) hb); replace HB := As.mk (below_step (be w) hb); (try clear hn1); (try clear hb); (try clear hb2); (try clear hk); (try clear hi); (try clear ho0); (try clear ho1)) | ((with_reducible refine gate_dst (N := 10) rfl ?_); refine box_event ?hg (N := 10) ?hd (cs := #[.slice none 0 0, .slice none 0 0]) (t := 33) ?hr ?_; (case hd => rfl); (case hg => rfl); (case hr => first | (go_simp; done) | (go_simp; rfl)); intro gb378 hg w35 hbox hb; replace HO367 := As.mk (Kd.S_below (by (with_reducible repeat (first | apply Kd.S_alloc | apply Kd.S_drewN | apply Kd.S_drew)); exact HO367.out) hb); replace HO370 := As.mk (Kd.S_below (by (with_reducible repeat (first | apply Kd.S_alloc | apply Kd.S_drewN | apply Kd.S_drew)); exact HO370.out) hb); replace HO374 := As.mk (Kd.S_below (by (with_reducible repeat (first | apply Kd.S_alloc | apply Kd.S_drewN | apply Kd.S_drew)); exact HO374.out) hb); replace HO377 := As.mk (Kd.S_below (by (with_reducible repeat (first | apply Kd.S_alloc | apply Kd.S_drewN | apply Kd.S_drew)); exact HO377.out) hb); have BK378 := As.mk (hbox); have GW378 := As.mk (gs w hg); have GE378 := As.mk (gs w hg); replace HB := As.mk (below_step (be w) hb); have NB356_378 := As.mk (nl hg (bx BK356.out)); have NB378_356 := As.mk (ng hg (bx BK356.out)); replace BK356 := As.mk (blk_below (bx BK356.out) hb); clear hb hbox hg; obtain ⟨Ao36, co36, eo36⟩ := Kd.S_slice HO374.out; subst eo36; have hnb37 := NB378_356.out; have hnc37 := NB356_378.out; obtain ⟨hcz38_0, hcz38_1, hfz38_0, hfz38_1⟩ := cl2 BK378.out; obtain ⟨Ao39, co39, eo39⟩ := Kd.S_slice HO377.out; subst eo39) | ((with_reducible refine gate_callee (f := 8) rfl ?_); refine goesL_ (some 41) rfl rfl Tryd.func8 (by kernel_rfl) rfl #[.slice A2 l2.length c2] rfl (by (try simp only [lm]); first | done | rfl | (simp only [List.length_drop, List.length_take]; rfl)) ?_; (with_reducible refine (laws_toNodeS.calls k _ _ l2 t379 _ ?side1 ?side2 A19.out).mono ?_); (case side1 => exact Kd.C_below HR2.out (be w)); (case side2 => exact HC2.out); rintro e w40 ⟨v380, rfl, ho0, hb⟩; refine ⟨_, rfl, ?_⟩; obtain ⟨n2, hn2⟩ := sp_cut hb; replace HO377 := As.mk (sp_old hn2 (by (with_reducible repeat (first | apply Kd.S_alloc | apply Kd.S_drewN | apply Kd.S_drew)); exact (Kd.S_mono (Kd.S_far (p := ⟨gb378, 1, none⟩) (Kd.S_far (p := ⟨gb378, 0, none⟩) (Kd.S_types HO377.out BK378.out (by decide)) (fun _ hk => hk.2) (.slice Ao36 t372.length co36)) (fun _ hk => hk.2) (.slice Ao39 t375.length co39)) (fun _ h_ => h_.1))) hb); have HO381 := As.mk (Kd.S_lower (sp_new hn2 ho0) (below_size (be w))); replace HO367 := As.mk (sp_old hn2 (by (with_reducible repeat (first | apply Kd.S_alloc | apply Kd.S_drewN | apply Kd.S_drew)); exact (Kd.S_mono (Kd.S_far (p := ⟨gb378, 1, none⟩) (Kd.S_far (p := ⟨gb378, 0, none⟩) (Kd.S_types HO367.out BK378.out (by decide)) (fun _ hk => hk.2) (.slice Ao36 t372.length co36)) (fun _ hk => hk.2) (.slice Ao39 t375.length co39)) (fun _ h_ => h_.1))) hb); replace HO370 := As.mk (sp_old hn2 (by (with_reducible repeat (first | apply Kd.S_alloc | apply Kd.S_drewN | apply Kd.S_drew)); exact (Kd.S_mono (Kd.S_far (p := ⟨gb378, 1, none⟩) (Kd.S_far (p := ⟨gb378, 0, none⟩) (Kd.S_types HO370.out BK378.out (by decide)) (fun _ hk => hk.2) (.slice Ao36 t372.length co36)) (fun _ hk => hk.2) (.slice Ao39 t375.length co39)) (fun _ h_ => h_.1))) hb); replace HO374 := As.mk (sp_old hn2 (by (with_reducible repeat (first | apply Kd.S_alloc | apply Kd.S_drewN | apply Kd.S_drew)); exact (Kd.S_mono (Kd.S_far (p := ⟨gb378, 1, none⟩) (Kd.S_far (p := ⟨gb378, 0, none⟩) (Kd.S_types HO374.out BK378.out (by decide)) (fun _ hk => hk.2) (.slice Ao36 t372.length co36)) (fun _ hk => hk.2) (.slice Ao39 t375.length co39)) (fun _ h_ => h_.1))) hb); replace BK356 := As.mk (blk_below (g := gb356) (o := .cells #[.slice A0_0 l0_0.length c0_0, .slice A0_1 l0_1.length c0_1] 25 (0, 0)) (by refine pl ?_; refine blk_far ?_ NB356_378.out _; refine pl ?_; refine blk_far ?_ NB356_378.out _; exact bx BK356.out) hb); replace BK378 := As.mk (blk_below (g := gb378) (o := .cells #[.slice Ao36 t372.length co36, .slice Ao39 t375.length co39] 33 (0, 0)) (by refine pl ?_; refine blk_put (cs := #[.slice Ao36 t372.length co36, .slice none 0 0]) ?_ 1 _ rfl; refine pl ?_; refine blk_put (cs := #[.slice none 0 0, .slice none 0 0]) ?_ 0 _ rfl; exact bx BK378.out) hb); replace HB := As.mk (below_step (be w) hb); (try clear hn2); (try clear hb); (try clear hb2); (try clear hk); (try clear hi); (try clear ho0); obtain ⟨hcz41_0, hcz41_1, hfz41_0, hfz41_1⟩ := cl2 BK378.out; obtain ⟨Ao42, co42, eo42⟩ := Kd.S_slice HO381.out; subst eo42) | ((with_reducible refine gate_callee (f := 9) rfl ?_); refine goesL_ (some 46) rfl rfl Tryd.func9 (by kernel_rfl) rfl #[.agg #[.slice Ao36 t372.length co36, .slice Ao39 t375.length co39], .int .i64 a1, .slice Ao42 t379.length co42] rfl (by (try simp only [lm]); first | done | rfl | (simp only [List.length_drop, List.length_take]; rfl)) ?_; (with_reducible refine (impl_CopyNodes.calls k _ _ t372 _ _ t375 a1 _ _ t379 t382 t385 _ ?side1 ?side2 ?side3 ?side4 ?side5 ?side6 A20.out).mono ?_); (case side1 => repeat (first | exact (Kd.S_reads' HO374.out).2.2 | (with_reducible refine Kd.C_alloc ?_ _) | (with_reducible refine Kd.C_drewN ?_ _) | (with_reducible refine Kd.C_drew ?_))); (case side2 => exact (Kd.S_reads' HO374.out).2.1); (case side3 => repeat (first | exact (Kd.S_reads' HO377.out).2.2 | (with_reducible refine Kd.C_alloc ?_ _) | (with_reducible refine Kd.C_drewN ?_ _) | (with_reducible refine Kd.C_drew ?_))); (case side4 => exact (Kd.S_reads' HO377.out).2.1); (case side5 => repeat (first | exact (Kd.S_reads' HO381.out).2.2 | (with_reducible refine Kd.C_alloc ?_ _) | (with_reducible refine Kd.C_drewN ?_ _) | (with_reducible refine Kd.C_drew ?_))); (case side6 => exact (Kd.S_reads' HO381.out).2.1); rintro e w43 ⟨v383, rfl, ho0, hb⟩; refine ⟨_, rfl, ?_⟩; obtain ⟨n3, hn3⟩ := sp_cut hb; replace HO377 := As.mk (sp_old hn3 (by (with_reducible repeat (first | apply Kd.S_alloc | apply Kd.S_drewN | apply Kd.S_drew)); exact HO377.out) hb); have HO384 := As.mk (Kd.S_lower (sp_new hn3 ho0) (below_size (be w))); replace HO367 := As.mk (sp_old hn3 (by (with_reducible repeat (first | apply Kd.S_alloc | apply Kd.S_drewN | apply Kd.S_drew)); exact HO367.out) hb); replace HO370 := As.mk (sp_old hn3 (by (with_reducible repeat (first | apply Kd.S_alloc | apply Kd.S_drewN | apply Kd.S_drew)); exact HO370.out) hb); replace HO374 := As.mk (sp_old hn3 (by (with_reducible repeat (first | apply Kd.S_alloc | apply Kd.S_drewN | apply Kd.S_drew)); exact HO374.out) hb); replace HO381 := As.mk (sp_old hn3 (by (with_reducible repeat (first | apply Kd.S_alloc | apply Kd.S_drewN | apply Kd.S_drew)); exact HO381.out) hb); replace BK356 := As.mk (blk_below (bx BK356.out) hb); replace BK378 := As.mk (blk_below (bx BK378.out) hb); replace HB := As.mk (below_step (be w) hb); (try clear hn3); (try clear hb); (try clear hb2); (try clear hk); (try clear hi); (try clear ho0)))
 (try simp only [pk])
 go_cut [57] (fun v57 wc => ∃ (kq : Nat) (x57_20 : Bool), v57 = .bool x57_20 ∧ As (laws_FnExactCopyNodes.j0 kq a1 l2 t368 t371 t379 t382 t385 x57_20 l0_0 l0_1 t372 t375 = some r) ∧ As (kq ≤ k) ∧ As (Kd.S k52 52 wc w.heap.size (fun k_ => k_ < n1 ∧ k_ < n2 ∧ k_ < n3) v369 t368) ∧ As (Kd.S k52 52 wc w.heap.size (fun k_ => n2 ≤ k_ ∧ k_ < n3) (.slice Ao42 t379.length co42) t379) ∧ As (Kd.S k52 52 wc w.heap.size (fun k_ => n3 ≤ k_) v383 t382) ∧ As (Kd.S k52 52 wc w.heap.size (fun k_ => n1 ≤ k_ ∧ k_ < n2 ∧ k_ < n3) (.slice Ao36 t372.length co36) t372) ∧ As (Kd.S k69 69 wc w.heap.size (fun k_ => n1 ≤ k_ ∧ k_ < n2 ∧ k_ < n3) (.slice Ao39 t375.length co39) t375) ∧ As (wc.heap[gb356]? = some (.cells #[(.slice A0_0 l0_0.length c0_0), (.slice A0_1 l0_1.length c0_1)] 25 (0, 0))) ∧ As (wc.heap[gb378]? = some (.cells #[(.slice Ao36 t372.length co36), (.slice Ao39 t375.length co39)] 33 (0, 0))) ∧ As (Below w.heap.size w wc))
 case first =>
  have H := HC21.out
  clear HC21
  obtain ⟨t386, A440, H⟩ := Option.bind_eq_some_iff.mp H
  try dsimp only at H
  have A44 := As.mk A440
  clear A440
  by_cases c45 : t386 = true
  ·
   subst c45
   rw [if_pos rfl] at H
   have H' := As.mk H
   clear H
   obtain ⟨Ao46, co46, eo46⟩ := Kd.S_slice HO384.out
   subst eo46
   obtain ⟨Ao47, co47, eo47⟩ := Kd.S_slice HO370.out
   subst eo47
   go_wp2_with (first | ((with_reducible refine gate_callee (f := 10) rfl ?_); refine goesL_ (some 51) rfl rfl Tryd.func10 (by kernel_rfl) rfl #[.slice Ao46 t382.length co46, .slice Ao47 t368.length co47] rfl (by (try simp only [lm]); first | done | rfl | (simp only [List.length_drop, List.length_take]; rfl)) ?_; (with_reducible refine (laws_eqNodeS.calls k _ _ t382 _ _ t368 true _ ?side1 ?side2 ?side3 ?side4 A44.out).mono ?_); (case side1 => repeat (first | exact (Kd.S_reads' HO384.out).2.2 | (with_reducible refine Kd.C_alloc ?_ _) | (with_reducible refine Kd.C_drewN ?_ _) | (with_reducible refine Kd.C_drew ?_))); (case side2 => exact (Kd.S_reads' HO384.out).2.1); (case side3 => repeat (first | exact (Kd.S_reads' HO370.out).2.2 | (with_reducible refine Kd.C_alloc ?_ _) | (with_reducible refine Kd.C_drewN ?_ _) | (with_reducible refine Kd.C_drew ?_))); (case side4 => exact (Kd.S_reads' HO370.out).2.1); rintro e w48 ⟨rfl, hb⟩; refine ⟨_, rfl, ?_⟩; replace HO367 := As.mk (Kd.S_below (by (with_reducible repeat (first | apply Kd.S_alloc | apply Kd.S_drewN | apply Kd.S_drew)); exact HO367.out) hb); replace HO370 := As.mk (Kd.S_below (by (with_reducible repeat (first | apply Kd.S_alloc | apply Kd.S_drewN | apply Kd.S_drew)); exact HO370.out) hb); replace HO374 := As.mk (Kd.S_below (by (with_reducible repeat (first | apply Kd.S_alloc | apply Kd.S_drewN | apply Kd.S_drew)); exact HO374.out) hb); replace HO377 := As.mk (Kd.S_below (by (with_reducible repeat (first | apply Kd.S_alloc | apply Kd.S_drewN | apply Kd.S_drew)); exact HO377.out) hb); replace HO381 := As.mk (Kd.S_below (by (with_reducible repeat (first | apply Kd.S_alloc | apply Kd.S_drewN | apply Kd.S_drew)); exact HO381.out) hb); replace HO384 := As.mk (Kd.S_below (by (with_reducible repeat (first | apply Kd.S_alloc | apply Kd.S_drewN | apply Kd.S_drew)); exact HO384.out) hb); replace BK356 := As.mk (blk_below (bx BK356.out) hb); replace BK378 := As.mk (blk_below (bx BK378.out) hb); replace HB := As.mk (below_step (be w) hb); (try clear hb); (try clear hb2); (try clear hk); (try clear hi)))
   go_meet
   case rel => exact ⟨_, ((t385 != t371)), (by first | rfl | (simp; done) | (simp [*]; done)), H', ⟨by first | omega | exact Nat.le_refl _⟩, ⟨by (with_reducible repeat (first | apply Kd.S_alloc | apply Kd.S_drewN | apply Kd.S_drew)); exact Kd.S_mono HO370.out (fun k_ hk => by (try dsimp only at hk ⊢); omega)⟩, ⟨by (with_reducible repeat (first | apply Kd.S_alloc | apply Kd.S_drewN | apply Kd.S_drew)); exact Kd.S_mono HO381.out (fun k_ hk => by (try dsimp only at hk ⊢); omega)⟩, ⟨by (with_reducible repeat (first | apply Kd.S_alloc | apply Kd.S_drewN | apply Kd.S_drew)); exact Kd.S_mono HO384.out (fun k_ hk => by (try dsimp only at hk ⊢); omega)⟩, ⟨by (with_reducible repeat (first | apply Kd.S_alloc | apply Kd.S_drewN | apply Kd.S_drew)); exact Kd.S_mono HO374.out (fun k_ hk => by (try dsimp only at hk ⊢); omega)⟩, ⟨by (with_reducible repeat (first | apply Kd.S_alloc | apply Kd.S_drewN | apply Kd.S_drew)); exact Kd.S_mono HO377.out (fun k_ hk => by (try dsimp only at hk ⊢); omega)⟩, ⟨bx BK356.out⟩, ⟨bx BK378.out⟩, ⟨be w⟩⟩
  replace c45 := Bool.eq_false_iff.mpr c45
  subst c45
  rw [if_neg (show ¬ (false = true) by decide)] at H
  have H' := As.mk H
  clear H
  obtain ⟨Ao49, co49, eo49⟩ := Kd.S_slice HO384.out
  subst eo49
  obtain ⟨Ao50, co50, eo50⟩ := Kd.S_slice HO370.out
  subst eo50
  go_wp2_with (first | ((with_reducible refine gate_callee (f := 10) rfl ?_); refine goesL_ (some 51) rfl rfl Tryd.func10 (by kernel_rfl) rfl #[.slice Ao49 t382.length co49, .slice Ao50 t368.length co50] rfl (by (try simp only [lm]); first | done | rfl | (simp only [List.length_drop, List.length_take]; rfl)) ?_; (with_reducible refine (laws_eqNodeS.calls k _ _ t382 _ _ t368 false _ ?side1 ?side2 ?side3 ?side4 A44.out).mono ?_); (case side1 => repeat (first | exact (Kd.S_reads' HO384.out).2.2 | (with_reducible refine Kd.C_alloc ?_ _) | (with_reducible refine Kd.C_drewN ?_ _) | (with_reducible refine Kd.C_drew ?_))); (case side2 => exact (Kd.S_reads' HO384.out).2.1); (case side3 => repeat (first | exact (Kd.S_reads' HO370.out).2.2 | (with_reducible refine Kd.C_alloc ?_ _) | (with_reducible refine Kd.C_drewN ?_ _) | (with_reducible refine Kd.C_drew ?_))); (case side4 => exact (Kd.S_reads' HO370.out).2.1); rintro e w51 ⟨rfl, hb⟩; refine ⟨_, rfl, ?_⟩; replace HO367 := As.mk (Kd.S_below (by (with_reducible repeat (first | apply Kd.S_alloc | apply Kd.S_drewN | apply Kd.S_drew)); exact HO367.out) hb); replace HO370 := As.mk (Kd.S_below (by (with_reducible repeat (first | apply Kd.S_alloc | apply Kd.S_drewN | apply Kd.S_drew)); exact HO370.out) hb); replace HO374 := As.mk (Kd.S_below (by (with_reducible repeat (first | apply Kd.S_alloc | apply Kd.S_drewN | apply Kd.S_drew)); exact HO374.out) hb); replace HO377 := As.mk (Kd.S_below (by (with_reducible repeat (first | apply Kd.S_alloc | apply Kd.S_drewN | apply Kd.S_drew)); exact HO377.out) hb); replace HO381 := As.mk (Kd.S_below (by (with_reducible repeat (first | apply Kd.S_alloc | apply Kd.S_drewN | apply Kd.S_drew)); exact HO381.out) hb); replace HO384 := As.mk (Kd.S_below (by (with_reducible repeat (first | apply Kd.S_alloc | apply Kd.S_drewN | apply Kd.S_drew)); exact HO384.out) hb); replace BK356 := As.mk (blk_below (bx BK356.out) hb); replace BK378 := As.mk (blk_below (bx BK378.out) hb); replace HB := As.mk (below_step (be w) hb); (try clear hb); (try clear hb2); (try clear hk); (try clear hi)))
  go_meet
  case rel => exact ⟨_, (true), (by first | rfl | (simp; done) | (simp [*]; done)), H', ⟨by first | omega | exact Nat.le_refl _⟩, ⟨by (with_reducible repeat (first | apply Kd.S_alloc | apply Kd.S_drewN | apply Kd.S_drew)); exact Kd.S_mono HO370.out (fun k_ hk => by (try dsimp only at hk ⊢); omega)⟩, ⟨by (with_reducible repeat (first | apply Kd.S_alloc | apply Kd.S_drewN | apply Kd.S_drew)); exact Kd.S_mono HO381.out (fun k_ hk => by (try dsimp only at hk ⊢); omega)⟩, ⟨by (with_reducible repeat (first | apply Kd.S_alloc | apply Kd.S_drewN | apply Kd.S_drew)); exact Kd.S_mono HO384.out (fun k_ hk => by (try dsimp only at hk ⊢); omega)⟩, ⟨by (with_reducible repeat (first | apply Kd.S_alloc | apply Kd.S_drewN | apply Kd.S_drew)); exact Kd.S_mono HO374.out (fun k_ hk => by (try dsimp only at hk ⊢); omega)⟩, ⟨by (with_reducible repeat (first | apply Kd.S_alloc | apply Kd.S_drewN | apply Kd.S_drew)); exact Kd.S_mono HO377.out (fun k_ hk => by (try dsimp only at hk ⊢); omega)⟩, ⟨bx BK356.out⟩, ⟨bx BK378.out⟩, ⟨be w⟩⟩
 case rest =>
  clear HC21
  (try clear c5); (try clear c5b0); (try clear c10); (try clear c10b0); (try clear hcz23_0); (try clear hcz23_1); (try clear hcz26_0); (try clear hcz26_1); (try clear hcz33_0); (try clear hcz33_1); (try clear hcz38_0); (try clear hcz38_1); (try clear hcz41_0); (try clear hcz41_1); (try clear hfz23_0); (try clear hfz23_1); (try clear hfz26_0); (try clear hfz26_1); (try clear hfz33_0); (try clear hfz33_1); (try clear hfz38_0); (try clear hfz38_1); (try clear hfz41_0); (try clear hfz41_1)
  obtain ⟨kq, x57_20, rfl, HA, HJ20, HO_8, HO_11, HO_12, HO_379000, HO_379001, BK356, BK378, HB⟩ := hcut
  cases kq with
  | zero => exact absurd HA.out (by simp [laws_FnExactCopyNodes.j0])
  | succ kj20 =>
   have H := HA.out
   clear HA
   simp only [laws_FnExactCopyNodes.j0] at H
   by_cases c52 : x57_20 = true
   ·
    subst c52
    rw [if_pos rfl] at H
    exact absurd H (by rw [hrt.out]; simp)
   replace c52 := Bool.eq_false_iff.mpr c52
   subst c52
   rw [if_neg (show ¬ (false = true) by decide)] at H
   obtain ⟨⟨t387, t390⟩, A530, H⟩ := Option.bind_eq_some_iff.mp H
   try dsimp only at H
   have A53 := As.mk A530
   clear A530
   obtain ⟨t393, A540, H⟩ := Option.bind_eq_some_iff.mp H
   try dsimp only at H
   have A54 := As.mk A540
   clear A540
   by_cases c55 : t393 = true
   rotate_left
   ·
    replace c55 := Bool.eq_false_iff.mpr c55
    subst c55
    rw [if_neg (show ¬ (false = true) by decide)] at H
    exact absurd H (by rw [hrt.out]; simp)

   subst c55
   rw [if_pos rfl] at H
   obtain ⟨t394, A560, H⟩ := Option.bind_eq_some_iff.mp H
   try dsimp only at H
   have A56 := As.mk A560
   clear A560
   obtain ⟨t397, A570, H⟩ := Option.bind_eq_some_iff.mp H
   try dsimp only at H
   have A57 := As.mk A570
   clear A570
   by_cases c58 : t397 = true
   rotate_left
   ·
    replace c58 := Bool.eq_false_iff.mpr c58
    subst c58
    rw [if_neg (show ¬ (false = true) by decide)] at H
    exact absurd H (by rw [hrt.out]; simp)
   subst c58
   rw [if_pos rfl] at H
   obtain ⟨t398, A590, H⟩ := Option.bind_eq_some_iff.mp H
   try dsimp only at H
   have A59 := As.mk A590
   clear A590
   obtain ⟨⟨t399, t400⟩, A600, H⟩ := Option.bind_eq_some_iff.mp H
   try dsimp only at H
   have A60 := As.mk A600
   clear A600
   have HC61 := As.mk H
   clear H
   try go_wp2
   replace HO_8 := As.mk (Kd.S_drew HO_8.out)
   replace HO_11 := As.mk (Kd.S_drew HO_11.out)
   replace HO_12 := As.mk (Kd.S_drew HO_12.out)
   replace HO_379000 := As.mk (Kd.S_drew HO_379000.out)
   replace HO_379001 := As.mk (Kd.S_drew HO_379001.out)
   replace BK356 := As.mk (blk_drew BK356.out)
   replace BK378 := As.mk (blk_drew BK378.out)
   replace HB := As.mk (below_drew1 HB.out)
   refine start_ (n := 5) (S := fun w' => w'.cell? ⟨gb378, 0, none⟩ = some (.slice Ao36 t372.length co36) ∧ w'.cell? ⟨gb378, 1, none⟩ = some (.slice Ao39 t375.length co39) ∧ w'.cell? ⟨gb356, 0, none⟩ = some (.slice A0_0 l0_0.length c0_0) ∧ w'.cell? ⟨gb356, 1, none⟩ = some (.slice A0_1 l0_1.length c0_1)) (ds := []) #[O, O, O, O, O] (by kernel_rfl) rfl rfl ⟨(blk_cell BK378.out 0).trans rfl, (blk_cell BK378.out 1).trans rfl, (blk_cell BK356.out 0).trans rfl, (blk_cell BK356.out 1).trans rfl⟩ (fun hHeld => ?_)
   generalize wc.drew = w62 at HO_8 HO_11 HO_12 HO_379000 HO_379001 BK356 BK378 HB hHeld ⊢
   refine take_ (i := 0) (N := some 58) (v := ?_) (a' := ?_) #[I, O, O, O, O] rfl rfl (by kernel_rfl) (fun _ _ _ h => h) (Or.inl ⟨by rfl, ?_⟩) hHeld ?_ ?_
   rotate_left; · rintro w' ⟨s0, s1, s2, s3⟩; go_simp; with_reducible rfl
   rotate_left; · simp only [pk, i64_w, i32_w]; rfl
   refine take_ (i := 1) (N := some 59) (v := ?_) (a' := ?_) #[I, I, O, O, O] rfl rfl (by kernel_rfl) (fun _ _ _ h => h) (Or.inl ⟨by rfl, ?_⟩) hHeld ?_ ?_
   rotate_left; · rintro w' ⟨s0, s1, s2, s3⟩; go_simp; with_reducible rfl
   rotate_left; · simp only [pk, i64_w, i32_w]; rfl
   refine one_ (i := 2) (N := some 60) #[I, I, I, O, O] rfl rfl (by kernel_rfl) (by decide) (fun K hK => ?_)
   refine goes_ Tryd.func7 (by kernel_rfl) rfl #[.agg #[.slice A0_0 l0_0.length c0_0, .slice A0_1 l0_1.length c0_1]] (by rfl) rfl rfl (by (try simp only [lm]); first | done | rfl | (simp only [List.length_drop, List.length_take]; rfl)) ?_
   with_reducible refine (laws_toProgram.calls kj20 _ _ l0_0 _ _ l0_1 t387 t390 _ ?side1 ?side2 ?side3 ?side4 A53.out).mono ?_
   (case side1 => exact Kd.C_below HR0_0.out (be w))
   (case side2 => exact HC0_0.out)
   (case side3 => exact Kd.C_below HR0_1.out (be w))
   (case side4 => exact HC0_1.out)
   rintro e w63 ⟨v388, v391, rfl, ho0, ho1, hb⟩
   refine ⟨_, rfl, ?_⟩
   have HO389 := As.mk (Kd.S_lower (sp_any ho0) (below_size (be w)))
   replace HO_8 := As.mk (Kd.S_below (by (with_reducible repeat (first | apply Kd.S_alloc | apply Kd.S_drewN | apply Kd.S_drew)); exact HO_8.out) hb)
   replace HO_11 := As.mk (Kd.S_below (by (with_reducible repeat (first | apply Kd.S_alloc | apply Kd.S_drewN | apply Kd.S_drew)); exact HO_11.out) hb)
   replace HO_12 := As.mk (Kd.S_below (by (with_reducible repeat (first | apply Kd.S_alloc | apply Kd.S_drewN | apply Kd.S_drew)); exact HO_12.out) hb)
   replace HO_379000 := As.mk (Kd.S_below (by (with_reducible repeat (first | apply Kd.S_alloc | apply Kd.S_drewN | apply Kd.S_drew)); exact HO_379000.out) hb)
   have HO392 := As.mk (Kd.S_lower (sp_any ho1) (below_size (be w)))
   replace HO_379001 := As.mk (Kd.S_below (by (with_reducible repeat (first | apply Kd.S_alloc | apply Kd.S_drewN | apply Kd.S_drew)); exact HO_379001.out) hb)
   replace BK356 := As.mk (blk_below (bx BK356.out) hb)
   replace BK378 := As.mk (blk_below (bx BK378.out) hb)
   replace HB := As.mk (below_step (be w) hb)
   (try clear hb)
   (try clear hb2)
   (try clear hk)
   (try clear hi)
   (try clear ho0)
   (try clear ho1)
   obtain ⟨Ao64, co64, eo64⟩ := Kd.S_slice HO389.out
   (first | subst eo64 | (injection eo64 with f1_ f2_ f3_; have f4_ := f1_.symm; have f5_ := f3_.symm; clear f1_ f2_ f3_; subst f4_; subst f5_))
   obtain ⟨Ao65, co65, eo65⟩ := Kd.S_slice HO392.out
   (first | subst eo65 | (injection eo65 with f1_ f2_ f3_; have f4_ := f1_.symm; have f5_ := f3_.symm; clear f1_ f2_ f3_; subst f4_; subst f5_))
   refine hK.out _ _ ⟨(blk_cell BK378.out 0).trans rfl, (blk_cell BK378.out 1).trans rfl, (blk_cell BK356.out 0).trans rfl, (blk_cell BK356.out 1).trans rfl⟩ (fun hHeld => ?_)
   clear hK K
   refine norm_ (a' := ?_) ?_ ?_
   rotate_left
   ·
    show Act.put _ (some 60) _ = _
    simp only [pk, i64_w, i32_w]
    rfl
   refine one_ (i := 3) (N := some 61) #[I, I, I, I, O] rfl rfl (by kernel_rfl) (by decide) (fun K hK => ?_)
   refine goes_ Tryd.func11 (by kernel_rfl) rfl #[.agg #[.slice Ao36 t372.length co36, .slice Ao39 t375.length co39], .agg #[.slice Ao64 t387.length co64, .slice Ao65 t390.length co65]] (by rfl) rfl rfl (by (try simp only [lm]); first | done | rfl | (simp only [List.length_drop, List.length_take]; rfl)) ?_
   with_reducible refine (laws_eqProgram.calls kj20 _ _ t372 _ _ t375 _ _ t387 _ _ t390 true _ ?side1 ?side2 ?side3 ?side4 ?side5 ?side6 ?side7 ?side8 A54.out).mono ?_
   (case side1 => repeat (first | exact (Kd.S_reads' HO_379000.out).2.2 | (with_reducible refine Kd.C_alloc ?_ _) | (with_reducible refine Kd.C_drewN ?_ _) | (with_reducible refine Kd.C_drew ?_)))
   (case side2 => exact (Kd.S_reads' HO_379000.out).2.1)
   (case side3 => repeat (first | exact (Kd.S_reads' HO_379001.out).2.2 | (with_reducible refine Kd.C_alloc ?_ _) | (with_reducible refine Kd.C_drewN ?_ _) | (with_reducible refine Kd.C_drew ?_)))
   (case side4 => exact (Kd.S_reads' HO_379001.out).2.1)
   (case side5 => repeat (first | exact (Kd.S_reads' HO389.out).2.2 | (with_reducible refine Kd.C_alloc ?_ _) | (with_reducible refine Kd.C_drewN ?_ _) | (with_reducible refine Kd.C_drew ?_)))
   (case side6 => exact (Kd.S_reads' HO389.out).2.1)
   (case side7 => repeat (first | exact (Kd.S_reads' HO392.out).2.2 | (with_reducible refine Kd.C_alloc ?_ _) | (with_reducible refine Kd.C_drewN ?_ _) | (with_reducible refine Kd.C_drew ?_)))
   (case side8 => exact (Kd.S_reads' HO392.out).2.1)
   rintro e w66 ⟨rfl, hb⟩
   refine ⟨_, rfl, ?_⟩
   replace HO_8 := As.mk (Kd.S_below (by (with_reducible repeat (first | apply Kd.S_alloc | apply Kd.S_drewN | apply Kd.S_drew)); exact HO_8.out) hb)
   replace HO_11 := As.mk (Kd.S_below (by (with_reducible repeat (first | apply Kd.S_alloc | apply Kd.S_drewN | apply Kd.S_drew)); exact HO_11.out) hb)
   replace HO_12 := As.mk (Kd.S_below (by (with_reducible repeat (first | apply Kd.S_alloc | apply Kd.S_drewN | apply Kd.S_drew)); exact HO_12.out) hb)
   replace HO_379000 := As.mk (Kd.S_below (by (with_reducible repeat (first | apply Kd.S_alloc | apply Kd.S_drewN | apply Kd.S_drew)); exact HO_379000.out) hb)
   replace HO_379001 := As.mk (Kd.S_below (by (with_reducible repeat (first | apply Kd.S_alloc | apply Kd.S_drewN | apply Kd.S_drew)); exact HO_379001.out) hb)
   replace HO389 := As.mk (Kd.S_below (by (with_reducible repeat (first | apply Kd.S_alloc | apply Kd.S_drewN | apply Kd.S_drew)); exact HO389.out) hb)
   replace HO392 := As.mk (Kd.S_below (by (with_reducible repeat (first | apply Kd.S_alloc | apply Kd.S_drewN | apply Kd.S_drew)); exact HO392.out) hb)
   replace BK356 := As.mk (blk_below (bx BK356.out) hb)
   replace BK378 := As.mk (blk_below (bx BK378.out) hb)
   replace HB := As.mk (below_step (be w) hb)
   (try clear hb)
   (try clear hb2)
   (try clear hk)
   (try clear hi)
   refine hK.out _ _ ⟨(blk_cell BK378.out 0).trans rfl, (blk_cell BK378.out 1).trans rfl, (blk_cell BK356.out 0).trans rfl, (blk_cell BK356.out 1).trans rfl⟩ (fun hHeld => ?_)
   clear hK K
   refine norm_ (a' := ?_) ?_ ?_
   rotate_left
   ·
    show Act.put _ (some 61) _ = _
    simp only [pk, i64_w, i32_w]
    rfl
   refine pure_ (i := 4) (N := some 62) (v := ?_) (a' := ?_) #[I, I, I, I, I] rfl rfl (by kernel_rfl) (fun _ _ _ h => h) (Or.inl ⟨by rfl, ?_⟩) ?_ ?_
   rotate_left; · intro w'; go_simp; with_reducible rfl
   rotate_left; · simp only [pk, i64_w, i32_w]; rfl
   refine done_ (by kernel_rfl) ?_
   go_upto_region 21 with (first | ((with_reducible refine gate_callee (f := 8) rfl ?_); refine goesL_ (some 65) rfl rfl Tryd.func8 (by kernel_rfl) rfl #[.slice A2 l2.length c2] rfl (by (try simp only [lm]); first | done | rfl | (simp only [List.length_drop, List.length_take]; rfl)) ?_; (with_reducible refine (laws_toNodeS.calls kj20 _ _ l2 t394 _ ?side1 ?side2 A56.out).mono ?_); (case side1 => exact Kd.C_below HR2.out (be w)); (case side2 => exact HC2.out); rintro e w67 ⟨v395, rfl, ho0, hb⟩; refine ⟨_, rfl, ?_⟩; replace HO_379001 := As.mk (Kd.S_below (by (with_reducible repeat (first | apply Kd.S_alloc | apply Kd.S_drewN | apply Kd.S_drew)); exact HO_379001.out) hb); have HO396 := As.mk (Kd.S_lower (sp_any ho0) (below_size (be w))); replace HO_8 := As.mk (Kd.S_below (by (with_reducible repeat (first | apply Kd.S_alloc | apply Kd.S_drewN | apply Kd.S_drew)); exact HO_8.out) hb); replace HO_11 := As.mk (Kd.S_below (by (with_reducible repeat (first | apply Kd.S_alloc | apply Kd.S_drewN | apply Kd.S_drew)); exact HO_11.out) hb); replace HO_12 := As.mk (Kd.S_below (by (with_reducible repeat (first | apply Kd.S_alloc | apply Kd.S_drewN | apply Kd.S_drew)); exact HO_12.out) hb); replace HO_379000 := As.mk (Kd.S_below (by (with_reducible repeat (first | apply Kd.S_alloc | apply Kd.S_drewN | apply Kd.S_drew)); exact HO_379000.out) hb); replace BK356 := As.mk (blk_below (bx BK356.out) hb); replace BK378 := As.mk (blk_below (bx BK378.out) hb); replace HB := As.mk (below_step (be w) hb); (try clear hb); (try clear hb2); (try clear hk); (try clear hi); (try clear ho0); obtain ⟨Ao68, co68, eo68⟩ := Kd.S_slice HO396.out; subst eo68) | ((with_reducible refine gate_callee (f := 10) rfl ?_); refine goesL_ (some 66) rfl rfl Tryd.func10 (by kernel_rfl) rfl #[.slice Ao42 t379.length co42, .slice Ao68 t394.length co68] rfl (by (try simp only [lm]); first | done | rfl | (simp only [List.length_drop, List.length_take]; rfl)) ?_; (with_reducible refine (laws_eqNodeS.calls kj20 _ _ t379 _ _ t394 true _ ?side1 ?side2 ?side3 ?side4 A57.out).mono ?_); (case side1 => repeat (first | exact (Kd.S_reads' HO_11.out).2.2 | (with_reducible refine Kd.C_alloc ?_ _) | (with_reducible refine Kd.C_drewN ?_ _) | (with_reducible refine Kd.C_drew ?_))); (case side2 => exact (Kd.S_reads' HO_11.out).2.1); (case side3 => repeat (first | exact (Kd.S_reads' HO396.out).2.2 | (with_reducible refine Kd.C_alloc ?_ _) | (with_reducible refine Kd.C_drewN ?_ _) | (with_reducible refine Kd.C_drew ?_))); (case side4 => exact (Kd.S_reads' HO396.out).2.1); rintro e w69 ⟨rfl, hb⟩; refine ⟨_, rfl, ?_⟩; replace HO_8 := As.mk (Kd.S_below (by (with_reducible repeat (first | apply Kd.S_alloc | apply Kd.S_drewN | apply Kd.S_drew)); exact HO_8.out) hb); replace HO_11 := As.mk (Kd.S_below (by (with_reducible repeat (first | apply Kd.S_alloc | apply Kd.S_drewN | apply Kd.S_drew)); exact HO_11.out) hb); replace HO_12 := As.mk (Kd.S_below (by (with_reducible repeat (first | apply Kd.S_alloc | apply Kd.S_drewN | apply Kd.S_drew)); exact HO_12.out) hb); replace HO_379000 := As.mk (Kd.S_below (by (with_reducible repeat (first | apply Kd.S_alloc | apply Kd.S_drewN | apply Kd.S_drew)); exact HO_379000.out) hb); replace HO_379001 := As.mk (Kd.S_below (by (with_reducible repeat (first | apply Kd.S_alloc | apply Kd.S_drewN | apply Kd.S_drew)); exact HO_379001.out) hb); replace HO396 := As.mk (Kd.S_below (by (with_reducible repeat (first | apply Kd.S_alloc | apply Kd.S_drewN | apply Kd.S_drew)); exact HO396.out) hb); replace BK356 := As.mk (blk_below (bx BK356.out) hb); replace BK378 := As.mk (blk_below (bx BK378.out) hb); replace HB := As.mk (below_step (be w) hb); (try clear hb); (try clear hb2); (try clear hk); (try clear hi); have hnb70 := NB378_356.out; have hnc70 := NB356_378.out; obtain ⟨hcz71_0, hcz71_1, hfz71_0, hfz71_1⟩ := cl2 BK378.out) | ((with_reducible refine gate_callee (f := 12) rfl ?_); refine goesL_ (some 70) rfl rfl Tryd.func12 (by kernel_rfl) rfl #[.agg #[.slice Ao36 t372.length co36, .slice Ao39 t375.length co39], .int .i64 1] rfl (by (try simp only [lm]); first | done | rfl | (simp only [List.length_drop, List.length_take]; rfl)) ?_; (with_reducible refine (laws_markProgram.calls _ (.slice Ao36 t372.length co36) t372 _ (.slice Ao39 t375.length co39) t375 1 t398 w _ ?side1 (Kd.S_bound HO_379000.out) (Kd.S_bound HO_379001.out) A59.out).mono ?_); (case side1 => repeat (first | (with_reducible first | exact HB.out | apply below_alloc | apply pw_below_drewN | apply below_drew1 | refine below_set ?_ GE356.out | refine below_set ?_ GE378.out) | exact HB.out)); rintro e w72 ⟨rfl, hb, hkp⟩; refine ⟨_, rfl, ?_⟩; replace HO_8 := As.mk (Kd.S_kept HO_8.out hkp (fun k_ hk_ hs_ => by rcases hs_ with hs_ | hs_ <;> (have h1_ := hs_.1; (try dsimp only at hk_ h1_); omega))); replace HO_11 := As.mk (Kd.S_kept HO_11.out hkp (fun k_ hk_ hs_ => by rcases hs_ with hs_ | hs_ <;> (have h1_ := hs_.1; (try dsimp only at hk_ h1_); omega))); replace HO_12 := As.mk (Kd.S_kept HO_12.out hkp (fun k_ hk_ hs_ => by rcases hs_ with hs_ | hs_ <;> (have h1_ := hs_.1; (try dsimp only at hk_ h1_); omega))); replace BK356 := As.mk (blk_kept (bx BK356.out) hkp (fun hs_ => Or.elim hs_ (fun e_ => mkk_tyb e_ (bx BK356.out) (by decide)) (fun e_ => mkk_tyb e_ (bx BK356.out) (by decide)))); replace BK378 := As.mk (blk_kept (bx BK378.out) hkp (fun hs_ => Or.elim hs_ (fun e_ => mkk_tyb e_ (bx BK378.out) (by decide)) (fun e_ => mkk_tyb e_ (bx BK378.out) (by decide)))); replace HB := As.mk (hb); clear HO_379000 HO_379001; (try clear hb); (try clear hkp)) | ((with_reducible refine gate_callee (f := 13) rfl ?_); refine goesL_ (some 73) rfl rfl Tryd.func13 (by kernel_rfl) rfl #[.slice Ao42 t379.length co42, .int .i64 t398] rfl (by (try simp only [lm]); first | done | rfl | (simp only [List.length_drop, List.length_take]; rfl)) ?_; (with_reducible refine (laws_markNodeS.calls _ (.slice Ao42 t379.length co42) t379 t398 t399 t400 w _ ?side1 (Kd.S_bound HO_11.out) A60.out).mono ?_); (case side1 => repeat (first | (with_reducible first | exact HB.out | apply below_alloc | apply pw_below_drewN | apply below_drew1 | refine below_set ?_ GE356.out | refine below_set ?_ GE378.out) | exact HB.out)); rintro e w73 ⟨rfl, hy0, hb, hkp⟩; refine ⟨_, rfl, ?_⟩; replace HO_8 := As.mk (Kd.S_kept HO_8.out hkp (fun k_ hk_ hs_ => by have h1_ := hs_.1; (try dsimp only at hk_ h1_); omega)); replace HO_12 := As.mk (Kd.S_kept HO_12.out hkp (fun k_ hk_ hs_ => by have h1_ := hs_.1; (try dsimp only at hk_ h1_); omega)); replace BK356 := As.mk (blk_kept (bx BK356.out) hkp (fun hs_ => mkk_tyb hs_ (bx BK356.out) (by decide))); replace BK378 := As.mk (blk_kept (bx BK378.out) hkp (fun hs_ => mkk_tyb hs_ (bx BK378.out) (by decide))); replace HO_11 := As.mk (Kd.S_mono hy0 (fun _ h_ => h_.1)); replace HB := As.mk (hb); (try clear hb); (try clear hkp); (try clear hy0)))
   (try simp only [pk])
   go_cut [86] (fun v86 wc => ∃ (kq : Nat) (x86_60 : Bool), v86 = .bool x86_60 ∧ As (laws_FnExactCopyNodes.j1 kq a1 l2 t368 t371 t382 x86_60 l0_0 l0_1 = some r) ∧ As (kq ≤ kj20) ∧ As (Kd.S k52 52 wc w.heap.size (fun k_ => k_ < n1 ∧ k_ < n2 ∧ k_ < n3) v369 t368) ∧ As (Kd.S k52 52 wc w.heap.size (fun k_ => n3 ≤ k_) v383 t382) ∧ As (wc.heap[gb356]? = some (.cells #[(.slice A0_0 l0_0.length c0_0), (.slice A0_1 l0_1.length c0_1)] 25 (0, 0))) ∧ As (Below w.heap.size w wc))
   case first =>
    have H := HC61.out
    clear HC61
    by_cases c74 : t399 < 0
    ·
     rw [if_pos c74] at H
     have c74b0 : decide (t399 < 0) = true := decide_eq_true c74
     clear c74
     (first | rw [c74b0] | (simp only [i64_w, i32_w]; rw [c74b0]) | skip)
     have H' := As.mk H
     clear H
     go_wp2
     go_meet
     case rel => exact ⟨_, (true), (by first | rfl | (simp; done) | (simp [*]; done)), H', ⟨by have := HJ20.out; first | omega | exact Nat.le_refl _⟩, ⟨by (with_reducible repeat (first | apply Kd.S_alloc | apply Kd.S_drewN | apply Kd.S_drew)); exact Kd.S_mono HO_8.out (fun k_ hk => by (try dsimp only at hk ⊢); omega)⟩, ⟨by (with_reducible repeat (first | apply Kd.S_alloc | apply Kd.S_drewN | apply Kd.S_drew)); exact Kd.S_mono HO_12.out (fun k_ hk => by (try dsimp only at hk ⊢); omega)⟩, ⟨bx BK356.out⟩, ⟨be w⟩⟩
    rw [if_neg c74] at H
    have c74b0 : decide (t399 < 0) = false := decide_eq_false c74
    clear c74
    (first | rw [c74b0] | (simp only [i64_w, i32_w]; rw [c74b0]) | skip)
    obtain ⟨t401, A750, H⟩ := Option.bind_eq_some_iff.mp H
    try dsimp only at H
    have A75 := As.mk A750
    clear A750
    by_cases c76 : t401 = true
    ·
     subst c76
     rw [if_pos rfl] at H
     have H' := As.mk H
     clear H
     obtain ⟨Ao77, co77, eo77⟩ := Kd.S_slice HO_12.out
     subst eo77
     obtain ⟨Ao78, co78, eo78⟩ := Kd.S_slice HO_8.out
     subst eo78
     go_wp2_with (first | (go_at_call 10; (with_reducible refine (laws_eqNodeS.calls kj20 _ _ t382 _ _ t368 true _ ?side1 ?side2 ?side3 ?side4 A75.out).mono ?_); (case side1 => repeat (first | exact (Kd.S_reads' HO_12.out).2.2 | (with_reducible refine Kd.C_alloc ?_ _) | (with_reducible refine Kd.C_drewN ?_ _) | (with_reducible refine Kd.C_drew ?_))); (case side2 => exact (Kd.S_reads' HO_12.out).2.1); (case side3 => repeat (first | exact (Kd.S_reads' HO_8.out).2.2 | (with_reducible refine Kd.C_alloc ?_ _) | (with_reducible refine Kd.C_drewN ?_ _) | (with_reducible refine Kd.C_drew ?_))); (case side4 => exact (Kd.S_reads' HO_8.out).2.1); rintro e w79 ⟨rfl, hb⟩; replace HO_8 := As.mk (Kd.S_below (by (with_reducible repeat (first | apply Kd.S_alloc | apply Kd.S_drewN | apply Kd.S_drew)); exact HO_8.out) hb); replace HO_12 := As.mk (Kd.S_below (by (with_reducible repeat (first | apply Kd.S_alloc | apply Kd.S_drewN | apply Kd.S_drew)); exact HO_12.out) hb); replace BK356 := As.mk (blk_below (bx BK356.out) hb); replace BK378 := As.mk (blk_below (bx BK378.out) hb); replace HB := As.mk (below_step (be w) hb); (try clear hb); (try clear hb2); (try clear hk); (try clear hi)))
     go_meet
     case rel => exact ⟨_, ((t385 != t371)), (by first | rfl | (simp; done) | (simp [*]; done)), H', ⟨by have := HJ20.out; first | omega | exact Nat.le_refl _⟩, ⟨by (with_reducible repeat (first | apply Kd.S_alloc | apply Kd.S_drewN | apply Kd.S_drew)); exact Kd.S_mono HO_8.out (fun k_ hk => by (try dsimp only at hk ⊢); omega)⟩, ⟨by (with_reducible repeat (first | apply Kd.S_alloc | apply Kd.S_drewN | apply Kd.S_drew)); exact Kd.S_mono HO_12.out (fun k_ hk => by (try dsimp only at hk ⊢); omega)⟩, ⟨bx BK356.out⟩, ⟨be w⟩⟩
    replace c76 := Bool.eq_false_iff.mpr c76
    subst c76
    rw [if_neg (show ¬ (false = true) by decide)] at H
    have H' := As.mk H
    clear H
    obtain ⟨Ao80, co80, eo80⟩ := Kd.S_slice HO_12.out
    subst eo80
    obtain ⟨Ao81, co81, eo81⟩ := Kd.S_slice HO_8.out
    subst eo81
    go_wp2_with (first | (go_at_call 10; (with_reducible refine (laws_eqNodeS.calls kj20 _ _ t382 _ _ t368 false _ ?side1 ?side2 ?side3 ?side4 A75.out).mono ?_); (case side1 => repeat (first | exact (Kd.S_reads' HO_12.out).2.2 | (with_reducible refine Kd.C_alloc ?_ _) | (with_reducible refine Kd.C_drewN ?_ _) | (with_reducible refine Kd.C_drew ?_))); (case side2 => exact (Kd.S_reads' HO_12.out).2.1); (case side3 => repeat (first | exact (Kd.S_reads' HO_8.out).2.2 | (with_reducible refine Kd.C_alloc ?_ _) | (with_reducible refine Kd.C_drewN ?_ _) | (with_reducible refine Kd.C_drew ?_))); (case side4 => exact (Kd.S_reads' HO_8.out).2.1); rintro e w82 ⟨rfl, hb⟩; replace HO_8 := As.mk (Kd.S_below (by (with_reducible repeat (first | apply Kd.S_alloc | apply Kd.S_drewN | apply Kd.S_drew)); exact HO_8.out) hb); replace HO_12 := As.mk (Kd.S_below (by (with_reducible repeat (first | apply Kd.S_alloc | apply Kd.S_drewN | apply Kd.S_drew)); exact HO_12.out) hb); replace BK356 := As.mk (blk_below (bx BK356.out) hb); replace BK378 := As.mk (blk_below (bx BK378.out) hb); replace HB := As.mk (below_step (be w) hb); (try clear hb); (try clear hb2); (try clear hk); (try clear hi)))
    go_meet
    case rel => exact ⟨_, (true), (by first | rfl | (simp; done) | (simp [*]; done)), H', ⟨by have := HJ20.out; first | omega | exact Nat.le_refl _⟩, ⟨by (with_reducible repeat (first | apply Kd.S_alloc | apply Kd.S_drewN | apply Kd.S_drew)); exact Kd.S_mono HO_8.out (fun k_ hk => by (try dsimp only at hk ⊢); omega)⟩, ⟨by (with_reducible repeat (first | apply Kd.S_alloc | apply Kd.S_drewN | apply Kd.S_drew)); exact Kd.S_mono HO_12.out (fun k_ hk => by (try dsimp only at hk ⊢); omega)⟩, ⟨bx BK356.out⟩, ⟨be w⟩⟩
   case rest =>
    clear HC61
    (try clear c5); (try clear c5b0); (try clear c10); (try clear c10b0); (try clear c52); (try clear c55); (try clear c58); (try clear hcz23_0); (try clear hcz23_1); (try clear hcz26_0); (try clear hcz26_1); (try clear hcz33_0); (try clear hcz33_1); (try clear hcz38_0); (try clear hcz38_1); (try clear hcz41_0); (try clear hcz41_1); (try clear hcz71_0); (try clear hcz71_1); (try clear hfz23_0); (try clear hfz23_1); (try clear hfz26_0); (try clear hfz26_1); (try clear hfz33_0); (try clear hfz33_1); (try clear hfz38_0); (try clear hfz38_1); (try clear hfz41_0); (try clear hfz41_1); (try clear hfz71_0); (try clear hfz71_1)
    obtain ⟨kq, x86_60, rfl, HA, HJ60, HO_8, HO_12, BK356, HB⟩ := hcut
    cases kq with
    | zero => exact absurd HA.out (by simp [laws_FnExactCopyNodes.j1])
    | succ kj60 =>
     have H := HA.out
     clear HA
     simp only [laws_FnExactCopyNodes.j1] at H
     by_cases c83 : x86_60 = true
     ·
      subst c83
      rw [if_pos rfl] at H
      exact absurd H (by rw [hrt.out]; simp)
     replace c83 := Bool.eq_false_iff.mpr c83
     subst c83
     rw [if_neg (show ¬ (false = true) by decide)] at H
     obtain ⟨⟨t402, t403⟩, A840, H⟩ := Option.bind_eq_some_iff.mp H
     try dsimp only at H
     have A84 := As.mk A840
     clear A840
     obtain ⟨t404, A850, H⟩ := Option.bind_eq_some_iff.mp H
     try dsimp only at H
     have A85 := As.mk A850
     clear A850
     by_cases c86 : t404 < 0
     ·
      rw [if_pos c86] at H
      have c86b0 : decide (t404 < 0) = true := decide_eq_true c86
      clear c86
      exact absurd H (by rw [hrt.out]; simp)
     rw [if_neg c86] at H
     have c86b0 : decide (t404 < 0) = false := decide_eq_false c86
     clear c86
     by_cases c87 : t404 = t402
     rotate_left
     ·
      rw [if_neg c87] at H
      have c87b0 : (t404 == t402) = false := beq_eq_false_iff_ne.mpr c87
      have c87b1 : (t404 != t402) = true := bne_iff_ne.mpr c87
      exact absurd H (by rw [hrt.out]; simp)
     rw [if_pos c87] at H
     have c87b0 : (t404 == t402) = true := beq_iff_eq.mpr c87
     have c87b1 : (t404 != t402) = false := bne_eq_false_iff_eq.mpr c87
     clear c87
     obtain ⟨⟨t405, t408⟩, A880, H⟩ := Option.bind_eq_some_iff.mp H
     try dsimp only at H
     have A88 := As.mk A880
     clear A880
     obtain ⟨t411, A890, H⟩ := Option.bind_eq_some_iff.mp H
     try dsimp only at H
     have A89 := As.mk A890
     clear A890
     obtain ⟨⟨t414, t417⟩, A900, H⟩ := Option.bind_eq_some_iff.mp H
     try dsimp only at H
     have A90 := As.mk A900
     clear A900
     have HC91 := As.mk H
     clear H
     obtain ⟨Ao92, co92, eo92⟩ := Kd.S_slice HO_12.out
     subst eo92
     go_upto_region 32 with (first | ((with_reducible refine gate_callee (f := 13) rfl ?_); refine goesL_ (some 89) rfl rfl Tryd.func13 (by kernel_rfl) rfl #[.slice Ao92 t382.length co92, .int .i64 1] rfl (by (try simp only [lm]); first | done | rfl | (simp only [List.length_drop, List.length_take]; rfl)) ?_; (with_reducible refine (laws_markNodeS.calls _ (.slice Ao92 t382.length co92) t382 1 t402 t403 w _ ?side1 (Kd.S_bound HO_12.out) A84.out).mono ?_); (case side1 => repeat (first | (with_reducible first | exact HB.out | apply below_alloc | apply pw_below_drewN | apply below_drew1 | refine below_set ?_ GE356.out) | exact HB.out)); rintro e w93 ⟨rfl, hy0, hb, hkp⟩; refine ⟨_, rfl, ?_⟩; replace HO_8 := As.mk (Kd.S_kept HO_8.out hkp (fun k_ hk_ hs_ => by have h1_ := hs_.1; (try dsimp only at hk_ h1_); omega)); replace BK356 := As.mk (blk_kept (bx BK356.out) hkp (fun hs_ => mkk_tyb hs_ (bx BK356.out) (by decide))); replace HO_12 := As.mk (Kd.S_mono hy0 (fun _ h_ => h_.1)); replace HB := As.mk (hb); (try clear hb); (try clear hkp); (try clear hy0)) | ((with_reducible refine gate_callee (f := 14) rfl ?_); refine goesL_ (some 92) rfl rfl Tryd.func14 (by kernel_rfl) rfl #[.slice Ao92 t403.length co92, .int .i64 1] rfl (by (try simp only [lm]); first | done | (rw [show t403.length = t382.length from (Kd.S_reads' HO_12.out).1.symm] <;> rfl) | rfl | (simp only [List.length_drop, List.length_take]; rfl)) ?_; (with_reducible refine (laws_heldNodeS.calls kj60 _ _ t403 1 t404 _ ?side1 ?side2 A85.out).mono ?_); (case side1 => repeat (first | exact (Kd.S_reads' HO_12.out).2.2 | (with_reducible refine Kd.C_alloc ?_ _) | (with_reducible refine Kd.C_drewN ?_ _) | (with_reducible refine Kd.C_drew ?_))); (case side2 => rw [show t403.length = t382.length from (Kd.S_reads' HO_12.out).1.symm]; exact (Kd.S_reads' HO_12.out).2.1); rintro e w94 ⟨rfl, hb⟩; refine ⟨_, rfl, ?_⟩; replace HO_8 := As.mk (Kd.S_below (by (with_reducible repeat (first | apply Kd.S_alloc | apply Kd.S_drewN | apply Kd.S_drew)); exact HO_8.out) hb); replace HO_12 := As.mk (Kd.S_below (by (with_reducible repeat (first | apply Kd.S_alloc | apply Kd.S_drewN | apply Kd.S_drew)); exact HO_12.out) hb); replace BK356 := As.mk (blk_below (bx BK356.out) hb); replace HB := As.mk (below_step (be w) hb); (try clear hb); (try clear hb2); (try clear hk); (try clear hi); obtain ⟨hcz95_0, hcz95_1, hfz95_0, hfz95_1⟩ := cl2 BK356.out) | ((with_reducible refine gate_callee (f := 7) rfl ?_); refine goesL_ (some 100) rfl rfl Tryd.func7 (by kernel_rfl) rfl #[.agg #[.slice A0_0 l0_0.length c0_0, .slice A0_1 l0_1.length c0_1]] rfl (by (try simp only [lm]); first | done | rfl | (simp only [List.length_drop, List.length_take]; rfl)) ?_; (with_reducible refine (laws_toProgram.calls kj60 _ _ l0_0 _ _ l0_1 t405 t408 _ ?side1 ?side2 ?side3 ?side4 A88.out).mono ?_); (case side1 => exact Kd.C_below HR0_0.out (be w)); (case side2 => exact HC0_0.out); (case side3 => exact Kd.C_below HR0_1.out (be w)); (case side4 => exact HC0_1.out); rintro e w96 ⟨v406, v409, rfl, ho0, ho1, hb⟩; refine ⟨_, rfl, ?_⟩; have HO407 := As.mk (Kd.S_lower (sp_any ho0) (below_size (be w))); replace HO_8 := As.mk (Kd.S_below (by (with_reducible repeat (first | apply Kd.S_alloc | apply Kd.S_drewN | apply Kd.S_drew)); exact HO_8.out) hb); replace HO_12 := As.mk (Kd.S_below (by (with_reducible repeat (first | apply Kd.S_alloc | apply Kd.S_drewN | apply Kd.S_drew)); exact HO_12.out) hb); have HO410 := As.mk (Kd.S_lower (sp_any ho1) (below_size (be w))); replace BK356 := As.mk (blk_below (bx BK356.out) hb); replace HB := As.mk (below_step (be w) hb); (try clear hb); (try clear hb2); (try clear hk); (try clear hi); (try clear ho0); (try clear ho1)) | ((with_reducible refine gate_callee (f := 8) rfl ?_); refine goesL_ (some 103) rfl rfl Tryd.func8 (by kernel_rfl) rfl #[.slice A2 l2.length c2] rfl (by (try simp only [lm]); first | done | rfl | (simp only [List.length_drop, List.length_take]; rfl)) ?_; (with_reducible refine (laws_toNodeS.calls kj60 _ _ l2 t411 _ ?side1 ?side2 A89.out).mono ?_); (case side1 => exact Kd.C_below HR2.out (be w)); (case side2 => exact HC2.out); rintro e w97 ⟨v412, rfl, ho0, hb⟩; refine ⟨_, rfl, ?_⟩; replace HO410 := As.mk (Kd.S_below (by (with_reducible repeat (first | apply Kd.S_alloc | apply Kd.S_drewN | apply Kd.S_drew)); exact HO410.out) hb); have HO413 := As.mk (Kd.S_lower (sp_any ho0) (below_size (be w))); replace HO_8 := As.mk (Kd.S_below (by (with_reducible repeat (first | apply Kd.S_alloc | apply Kd.S_drewN | apply Kd.S_drew)); exact HO_8.out) hb); replace HO_12 := As.mk (Kd.S_below (by (with_reducible repeat (first | apply Kd.S_alloc | apply Kd.S_drewN | apply Kd.S_drew)); exact HO_12.out) hb); replace HO407 := As.mk (Kd.S_below (by (with_reducible repeat (first | apply Kd.S_alloc | apply Kd.S_drewN | apply Kd.S_drew)); exact HO407.out) hb); replace BK356 := As.mk (blk_below (bx BK356.out) hb); replace HB := As.mk (below_step (be w) hb); (try clear hb); (try clear hb2); (try clear hk); (try clear hi); (try clear ho0); obtain ⟨Ao98, co98, eo98⟩ := Kd.S_slice HO407.out; subst eo98; obtain ⟨Ao99, co99, eo99⟩ := Kd.S_slice HO410.out; subst eo99; obtain ⟨Ao100, co100, eo100⟩ := Kd.S_slice HO413.out; subst eo100) | ((with_reducible refine gate_callee (f := 9) rfl ?_); refine goesL_ (some 104) rfl rfl Tryd.func9 (by kernel_rfl) rfl #[.agg #[.slice Ao98 t405.length co98, .slice Ao99 t408.length co99], .int .i64 a1, .slice Ao100 t411.length co100] rfl (by (try simp only [lm]); first | done | rfl | (simp only [List.length_drop, List.length_take]; rfl)) ?_; (with_reducible refine (impl_CopyNodes.calls kj60 _ _ t405 _ _ t408 a1 _ _ t411 t414 t417 _ ?side1 ?side2 ?side3 ?side4 ?side5 ?side6 A90.out).mono ?_); (case side1 => repeat (first | exact (Kd.S_reads' HO407.out).2.2 | (with_reducible refine Kd.C_alloc ?_ _) | (with_reducible refine Kd.C_drewN ?_ _) | (with_reducible refine Kd.C_drew ?_))); (case side2 => exact (Kd.S_reads' HO407.out).2.1); (case side3 => repeat (first | exact (Kd.S_reads' HO410.out).2.2 | (with_reducible refine Kd.C_alloc ?_ _) | (with_reducible refine Kd.C_drewN ?_ _) | (with_reducible refine Kd.C_drew ?_))); (case side4 => exact (Kd.S_reads' HO410.out).2.1); (case side5 => repeat (first | exact (Kd.S_reads' HO413.out).2.2 | (with_reducible refine Kd.C_alloc ?_ _) | (with_reducible refine Kd.C_drewN ?_ _) | (with_reducible refine Kd.C_drew ?_))); (case side6 => exact (Kd.S_reads' HO413.out).2.1); rintro e w101 ⟨v415, rfl, ho0, hb⟩; refine ⟨_, rfl, ?_⟩; replace HO410 := As.mk (Kd.S_below (by (with_reducible repeat (first | apply Kd.S_alloc | apply Kd.S_drewN | apply Kd.S_drew)); exact HO410.out) hb); have HO416 := As.mk (Kd.S_lower (sp_any ho0) (below_size (be w))); replace HO_8 := As.mk (Kd.S_below (by (with_reducible repeat (first | apply Kd.S_alloc | apply Kd.S_drewN | apply Kd.S_drew)); exact HO_8.out) hb); replace HO_12 := As.mk (Kd.S_below (by (with_reducible repeat (first | apply Kd.S_alloc | apply Kd.S_drewN | apply Kd.S_drew)); exact HO_12.out) hb); replace HO407 := As.mk (Kd.S_below (by (with_reducible repeat (first | apply Kd.S_alloc | apply Kd.S_drewN | apply Kd.S_drew)); exact HO407.out) hb); replace HO413 := As.mk (Kd.S_below (by (with_reducible repeat (first | apply Kd.S_alloc | apply Kd.S_drewN | apply Kd.S_drew)); exact HO413.out) hb); replace BK356 := As.mk (blk_below (bx BK356.out) hb); replace HB := As.mk (below_step (be w) hb); (try clear hb); (try clear hb2); (try clear hk); (try clear hi); (try clear ho0)))
     (try simp only [pk])
     go_cut [115] (fun v115 wc => ∃ (kq : Nat) (x115_90 : Bool), v115 = .bool x115_90 ∧ As (laws_FnExactCopyNodes.j2 kq t403 t402 x115_90 = some r) ∧ As (kq ≤ kj60) ∧ As (Kd.S k52 52 wc w.heap.size (fun k_ => n3 ≤ k_) (.slice Ao92 t382.length co92) t403) ∧ As (Below w.heap.size w wc))
     case first =>
      have H := HC91.out
      clear HC91
      obtain ⟨t418, A1020, H⟩ := Option.bind_eq_some_iff.mp H
      try dsimp only at H
      have A102 := As.mk A1020
      clear A1020
      by_cases c103 : t418 = true
      ·
       subst c103
       rw [if_pos rfl] at H
       have H' := As.mk H
       clear H
       obtain ⟨Ao104, co104, eo104⟩ := Kd.S_slice HO416.out
       subst eo104
       obtain ⟨Ao105, co105, eo105⟩ := Kd.S_slice HO_8.out
       subst eo105
       go_wp2_with (first | ((with_reducible refine gate_callee (f := 10) rfl ?_); refine goesL_ (some 109) rfl rfl Tryd.func10 (by kernel_rfl) rfl #[.slice Ao104 t414.length co104, .slice Ao105 t368.length co105] rfl (by (try simp only [lm]); first | done | rfl | (simp only [List.length_drop, List.length_take]; rfl)) ?_; (with_reducible refine (laws_eqNodeS.calls kj60 _ _ t414 _ _ t368 true _ ?side1 ?side2 ?side3 ?side4 A102.out).mono ?_); (case side1 => repeat (first | exact (Kd.S_reads' HO416.out).2.2 | (with_reducible refine Kd.C_alloc ?_ _) | (with_reducible refine Kd.C_drewN ?_ _) | (with_reducible refine Kd.C_drew ?_))); (case side2 => exact (Kd.S_reads' HO416.out).2.1); (case side3 => repeat (first | exact (Kd.S_reads' HO_8.out).2.2 | (with_reducible refine Kd.C_alloc ?_ _) | (with_reducible refine Kd.C_drewN ?_ _) | (with_reducible refine Kd.C_drew ?_))); (case side4 => exact (Kd.S_reads' HO_8.out).2.1); rintro e w106 ⟨rfl, hb⟩; refine ⟨_, rfl, ?_⟩; replace HO_8 := As.mk (Kd.S_below (by (with_reducible repeat (first | apply Kd.S_alloc | apply Kd.S_drewN | apply Kd.S_drew)); exact HO_8.out) hb); replace HO_12 := As.mk (Kd.S_below (by (with_reducible repeat (first | apply Kd.S_alloc | apply Kd.S_drewN | apply Kd.S_drew)); exact HO_12.out) hb); replace HO416 := As.mk (Kd.S_below (by (with_reducible repeat (first | apply Kd.S_alloc | apply Kd.S_drewN | apply Kd.S_drew)); exact HO416.out) hb); replace BK356 := As.mk (blk_below (bx BK356.out) hb); replace HB := As.mk (below_step (be w) hb); (try clear hb); (try clear hb2); (try clear hk); (try clear hi)))
       go_meet
       case rel => exact ⟨_, ((t417 != t371)), (by first | rfl | (simp; done) | (simp [*]; done)), H', ⟨by have := HJ20.out; have := HJ60.out; first | omega | exact Nat.le_refl _⟩, ⟨by (with_reducible repeat (first | apply Kd.S_alloc | apply Kd.S_drewN | apply Kd.S_drew)); exact Kd.S_mono HO_12.out (fun k_ hk => by (try dsimp only at hk ⊢); omega)⟩, ⟨be w⟩⟩
      replace c103 := Bool.eq_false_iff.mpr c103
      subst c103
      rw [if_neg (show ¬ (false = true) by decide)] at H
      have H' := As.mk H
      clear H
      obtain ⟨Ao107, co107, eo107⟩ := Kd.S_slice HO416.out
      subst eo107
      obtain ⟨Ao108, co108, eo108⟩ := Kd.S_slice HO_8.out
      subst eo108
      go_wp2_with (first | ((with_reducible refine gate_callee (f := 10) rfl ?_); refine goesL_ (some 109) rfl rfl Tryd.func10 (by kernel_rfl) rfl #[.slice Ao107 t414.length co107, .slice Ao108 t368.length co108] rfl (by (try simp only [lm]); first | done | rfl | (simp only [List.length_drop, List.length_take]; rfl)) ?_; (with_reducible refine (laws_eqNodeS.calls kj60 _ _ t414 _ _ t368 false _ ?side1 ?side2 ?side3 ?side4 A102.out).mono ?_); (case side1 => repeat (first | exact (Kd.S_reads' HO416.out).2.2 | (with_reducible refine Kd.C_alloc ?_ _) | (with_reducible refine Kd.C_drewN ?_ _) | (with_reducible refine Kd.C_drew ?_))); (case side2 => exact (Kd.S_reads' HO416.out).2.1); (case side3 => repeat (first | exact (Kd.S_reads' HO_8.out).2.2 | (with_reducible refine Kd.C_alloc ?_ _) | (with_reducible refine Kd.C_drewN ?_ _) | (with_reducible refine Kd.C_drew ?_))); (case side4 => exact (Kd.S_reads' HO_8.out).2.1); rintro e w109 ⟨rfl, hb⟩; refine ⟨_, rfl, ?_⟩; replace HO_8 := As.mk (Kd.S_below (by (with_reducible repeat (first | apply Kd.S_alloc | apply Kd.S_drewN | apply Kd.S_drew)); exact HO_8.out) hb); replace HO_12 := As.mk (Kd.S_below (by (with_reducible repeat (first | apply Kd.S_alloc | apply Kd.S_drewN | apply Kd.S_drew)); exact HO_12.out) hb); replace HO416 := As.mk (Kd.S_below (by (with_reducible repeat (first | apply Kd.S_alloc | apply Kd.S_drewN | apply Kd.S_drew)); exact HO416.out) hb); replace BK356 := As.mk (blk_below (bx BK356.out) hb); replace HB := As.mk (below_step (be w) hb); (try clear hb); (try clear hb2); (try clear hk); (try clear hi)))
      go_meet
      case rel => exact ⟨_, (true), (by first | rfl | (simp; done) | (simp [*]; done)), H', ⟨by have := HJ20.out; have := HJ60.out; first | omega | exact Nat.le_refl _⟩, ⟨by (with_reducible repeat (first | apply Kd.S_alloc | apply Kd.S_drewN | apply Kd.S_drew)); exact Kd.S_mono HO_12.out (fun k_ hk => by (try dsimp only at hk ⊢); omega)⟩, ⟨be w⟩⟩
     case rest =>
      clear HC91
      (try clear c5); (try clear c5b0); (try clear c10); (try clear c10b0); (try clear c52); (try clear c55); (try clear c58); (try clear c83); (try clear c86); (try clear c86b0); (try clear c87); (try clear c87b0); (try clear c87b1); (try clear hcz23_0); (try clear hcz23_1); (try clear hcz26_0); (try clear hcz26_1); (try clear hcz33_0); (try clear hcz33_1); (try clear hcz38_0); (try clear hcz38_1); (try clear hcz41_0); (try clear hcz41_1); (try clear hcz71_0); (try clear hcz71_1); (try clear hcz95_0); (try clear hcz95_1); (try clear hfz23_0); (try clear hfz23_1); (try clear hfz26_0); (try clear hfz26_1); (try clear hfz33_0); (try clear hfz33_1); (try clear hfz38_0); (try clear hfz38_1); (try clear hfz41_0); (try clear hfz41_1); (try clear hfz71_0); (try clear hfz71_1); (try clear hfz95_0); (try clear hfz95_1)
      obtain ⟨kq, x115_90, rfl, HA, HJ90, HO_12, HB⟩ := hcut
      have hl12_90 := (Kd.S_reads' HO_12.out).1
      rw [hl12_90] at HO_12
      (try simp only [hl12_90])
      cases kq with
      | zero => exact absurd HA.out (by simp [laws_FnExactCopyNodes.j2])
      | succ kj90 =>
       have H := HA.out
       clear HA
       simp only [laws_FnExactCopyNodes.j2] at H
       by_cases c110 : x115_90 = true
       ·
        subst c110
        rw [if_pos rfl] at H
        exact absurd H (by rw [hrt.out]; simp)
       replace c110 := Bool.eq_false_iff.mpr c110
       subst c110
       rw [if_neg (show ¬ (false = true) by decide)] at H
       obtain ⟨t419, A1110, H⟩ := Option.bind_eq_some_iff.mp H
       try dsimp only at H
       have A111 := As.mk A1110
       clear A1110
       by_cases c112 : t419 < 0
       ·
        rw [if_pos c112] at H
        have c112b0 : decide (t419 < 0) = true := decide_eq_true c112
        clear c112
        exact absurd H (by rw [hrt.out]; simp)
       rw [if_neg c112] at H
       have c112b0 : decide (t419 < 0) = false := decide_eq_false c112
       clear c112
       by_cases c113 : t419 = t402
       rotate_left
       ·
        rw [if_neg c113] at H
        have c113b0 : (t419 == t402) = false := beq_eq_false_iff_ne.mpr c113
        have c113b1 : (t419 != t402) = true := bne_iff_ne.mpr c113
        exact absurd H (by rw [hrt.out]; simp)
       rw [if_pos c113] at H
       have c113b0 : (t419 == t402) = true := beq_iff_eq.mpr c113
       have c113b1 : (t419 != t402) = false := bne_eq_false_iff_eq.mpr c113
       clear c113
       obtain rfl := Option.some.inj H
       go_wp2_with (first | ((with_reducible refine gate_callee (f := 14) rfl ?_); refine goesL_ (some 118) rfl rfl Tryd.func14 (by kernel_rfl) rfl #[.slice Ao92 t403.length co92, .int .i64 1] rfl (by (try simp only [lm]); first | done | rfl | (simp only [List.length_drop, List.length_take]; rfl)) ?_; (with_reducible refine (laws_heldNodeS.calls kj90 _ _ t403 1 t419 _ ?side1 ?side2 A111.out).mono ?_); (case side1 => repeat (first | exact (Kd.S_reads' HO_12.out).2.2 | (with_reducible refine Kd.C_alloc ?_ _) | (with_reducible refine Kd.C_drewN ?_ _) | (with_reducible refine Kd.C_drew ?_))); (case side2 => exact (Kd.S_reads' HO_12.out).2.1); rintro e w114 ⟨rfl, hb⟩; refine ⟨_, rfl, ?_⟩; replace HO_12 := As.mk (Kd.S_below (by (with_reducible repeat (first | apply Kd.S_alloc | apply Kd.S_drewN | apply Kd.S_drew)); exact HO_12.out) hb); replace HB := As.mk (below_step (be w) hb); (try clear hb); (try clear hb2); (try clear hk); (try clear hi)))
       go_ret
       exact ⟨ez, be w⟩
end Go.Proofs.YtnepkmbknoanjaaDoor.PFnExactCopyNodes
