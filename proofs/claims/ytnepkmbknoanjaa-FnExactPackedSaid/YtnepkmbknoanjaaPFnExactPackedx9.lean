/- Written by a program of this session (a turned copy of the kit's print): a contract for each Go function. No condition beside those in each statement. -/
import Derived.Test.YtnepkmbknoanjaaPFnExactPackedx0
import Derived.Test.YtnepkmbknoanjaaPFnExactPackedx1
import Derived.Test.YtnepkmbknoanjaaPFnExactPackedx2
import Derived.Test.YtnepkmbknoanjaaPFnExactPackedx3
import Derived.Test.YtnepkmbknoanjaaPFnExactPackedx4
import Derived.Test.YtnepkmbknoanjaaPFnExactPackedx5
import Derived.Test.YtnepkmbknoanjaaPFnExactPackedx6
import Derived.Test.YtnepkmbknoanjaaPFnExactPackedx7
import Derived.Test.YtnepkmbknoanjaaPFnExactPackedx8
namespace Go.Proofs.Ytnepkmbknoanjaa.PFnExactPacked
open Go.RowKit Go.Proofs.YtnepkmbknoanjaaW.PrintWords Go.Proofs.YtnepkmbknoanjaaW.PrintLast Go.Proofs.YtnepkmbknoanjaaW.PrintMore
attribute [local go_sem] max2_int min2_int max_two min_two max_three min_three max_four min_four   -- for this text's walks alone
set_option linter.unusedVariables false
set_option linter.unusedSimpArgs false

/-! ### laws_heldProgram: function 10 -/
def laws_heldProgram.f (k : Nat) (l0_0 : List (S64)) (l0_1 : List (S44)) (a1 : Int) : Option (Int) := (laws_heldNodeS.f k l0_0 a1).bind fun t243 => (if t243 < 0 then (some (-1)) else ((laws_heldFnS.f k l0_1 t243).bind fun t244 => (if t244 < 0 then (some (-1)) else (some t244))))
theorem laws_heldProgram.mono : ∀ a0 a1 a2 k, LeO (laws_heldProgram.f k a0 a1 a2) (laws_heldProgram.f (k + 1) a0 a1 a2) := by
 intro a0 a1 a2 k
 unfold laws_heldProgram.f
 with_reducible repeat' first | exact laws_heldFnS.mono _ _ _ | exact laws_heldNodeS.mono _ _ _ | exact LeO.refl _ | exact LeO.none _ | refine LeO.ite ?_ ?_ | refine LeO.bind ?_ (fun _ => ?_)
set_option maxHeartbeats 8000000 in
set_option maxRecDepth 100000 in
theorem laws_heldProgram.calls (k : Nat) (A0_0 : Option Addr) (c0_0 : Nat) (l0_0 : List (S64)) (A0_1 : Option Addr) (c0_1 : Nat) (l0_1 : List (S44)) (a1 : Int) (r : Int) (w : World) (hr0_0 : Kd.C k64 w A0_0 l0_0.length l0_0) (hc0_0 : l0_0.length ≤ c0_0) (hr0_1 : Kd.C k44 w A0_1 l0_1.length l0_1) (hc0_1 : l0_1.length ≤ c0_1) (h : laws_heldProgram.f k l0_0 l0_1 a1 = some r) :
  Calls Try.prog 10 #[.agg #[.slice A0_0 l0_0.length c0_0, .slice A0_1 l0_1.length c0_1], .int .i64 a1] w fun e w' => e = .returned (.int .i64 r) ∧ Below w.heap.size w w' := by
 have hu30 := Try.underlying30
 have HR0_0 := As.mk hr0_0
 have HC0_0 := As.mk hc0_0
 clear hr0_0 hc0_0
 have HR0_1 := As.mk hr0_1
 have HC0_1 := As.mk hc0_1
 clear hr0_1 hc0_1
 have HB := As.mk (Below.refl w.heap.size w)
 have H : ((laws_heldNodeS.f k l0_0 a1).bind fun t243 => (if t243 < 0 then (some (-1)) else ((laws_heldFnS.f k l0_1 t243).bind fun t244 => (if t244 < 0 then (some (-1)) else (some t244))))) = some r := h
 clear h
 obtain ⟨t243, A30, H⟩ := Option.bind_eq_some_iff.mp H
 try dsimp only at H
 have A3 := As.mk A30
 clear A30
 by_cases c4 : t243 < 0
 ·
  rw [if_pos c4] at H
  have c4b0 : decide (t243 < 0) = true := decide_eq_true c4
  clear c4
  obtain rfl := Option.some.inj H
  go_enter Try.func10, Try.ntmps10
  go_wp2_with (first | ((with_reducible refine gate_dst (N := 2) rfl ?_); refine box_event ?hg (N := 2) ?hd (cs := #[.slice A0_0 l0_0.length c0_0, .slice A0_1 l0_1.length c0_1]) (t := 30) ?hr ?_; (case hd => rfl); (case hg => rfl); (case hr => first | (go_simp; done) | (go_simp; rfl)); intro gb242 hg w5 hbox hb; have BK242 := As.mk (hbox); have GW242 := As.mk (gs w hg); have GE242 := As.mk (gs w hg); replace HB := As.mk (below_step (be w) hb); clear hb hbox hg; obtain ⟨hcz6_0, hcz6_1, hfz6_0, hfz6_1⟩ := cl2 BK242.out) | ((with_reducible refine gate_callee (f := 22) rfl ?_); refine goesL_ (some 8) rfl rfl Try.func22 (by kernel_rfl) rfl #[.slice A0_0 l0_0.length c0_0, .int .i64 a1] rfl (by (try simp only [lm]); first | done | rfl | (simp only [List.length_drop, List.length_take]; rfl)) ?_; (with_reducible refine (laws_heldNodeS.calls k _ _ l0_0 a1 t243 _ ?side1 ?side2 A3.out).mono ?_); (case side1 => exact Kd.C_below HR0_0.out (be w)); (case side2 => exact HC0_0.out); rintro e w7 ⟨rfl, hb⟩; refine ⟨_, rfl, ?_⟩; replace HB := As.mk (below_step (be w) hb); (try clear hb); (try clear hb2); (try clear hk); (try clear hi)))
  go_ret
  exact ⟨ez, be w⟩
 rw [if_neg c4] at H
 have c4b0 : decide (t243 < 0) = false := decide_eq_false c4
 clear c4
 obtain ⟨t244, A80, H⟩ := Option.bind_eq_some_iff.mp H
 try dsimp only at H
 have A8 := As.mk A80
 clear A80
 by_cases c9 : t244 < 0
 ·
  rw [if_pos c9] at H
  have c9b0 : decide (t244 < 0) = true := decide_eq_true c9
  clear c9
  obtain rfl := Option.some.inj H
  go_enter Try.func10, Try.ntmps10
  go_wp2_with (first | ((with_reducible refine gate_dst (N := 2) rfl ?_); refine box_event ?hg (N := 2) ?hd (cs := #[.slice A0_0 l0_0.length c0_0, .slice A0_1 l0_1.length c0_1]) (t := 30) ?hr ?_; (case hd => rfl); (case hg => rfl); (case hr => first | (go_simp; done) | (go_simp; rfl)); intro gb242 hg w10 hbox hb; have BK242 := As.mk (hbox); have GW242 := As.mk (gs w hg); have GE242 := As.mk (gs w hg); replace HB := As.mk (below_step (be w) hb); clear hb hbox hg; obtain ⟨hcz11_0, hcz11_1, hfz11_0, hfz11_1⟩ := cl2 BK242.out) | ((with_reducible refine gate_callee (f := 22) rfl ?_); refine goesL_ (some 8) rfl rfl Try.func22 (by kernel_rfl) rfl #[.slice A0_0 l0_0.length c0_0, .int .i64 a1] rfl (by (try simp only [lm]); first | done | rfl | (simp only [List.length_drop, List.length_take]; rfl)) ?_; (with_reducible refine (laws_heldNodeS.calls k _ _ l0_0 a1 t243 _ ?side1 ?side2 A3.out).mono ?_); (case side1 => exact Kd.C_below HR0_0.out (be w)); (case side2 => exact HC0_0.out); rintro e w12 ⟨rfl, hb⟩; refine ⟨_, rfl, ?_⟩; replace BK242 := As.mk (blk_below (bx BK242.out) hb); replace HB := As.mk (below_step (be w) hb); (try clear hb); (try clear hb2); (try clear hk); (try clear hi); obtain ⟨hcz13_0, hcz13_1, hfz13_0, hfz13_1⟩ := cl2 BK242.out) | ((with_reducible refine gate_callee (f := 23) rfl ?_); refine goesL_ (some 14) rfl rfl Try.func23 (by kernel_rfl) rfl #[.slice A0_1 l0_1.length c0_1, .int .i64 t243] rfl (by (try simp only [lm]); first | done | rfl | (simp only [List.length_drop, List.length_take]; rfl)) ?_; (with_reducible refine (laws_heldFnS.calls k _ _ l0_1 t243 t244 _ ?side1 ?side2 A8.out).mono ?_); (case side1 => exact Kd.C_below HR0_1.out (be w)); (case side2 => exact HC0_1.out); rintro e w14 ⟨rfl, hb⟩; refine ⟨_, rfl, ?_⟩; replace HB := As.mk (below_step (be w) hb); (try clear hb); (try clear hb2); (try clear hk); (try clear hi)))
  go_ret
  exact ⟨ez, be w⟩
 rw [if_neg c9] at H
 have c9b0 : decide (t244 < 0) = false := decide_eq_false c9
 clear c9
 obtain rfl := Option.some.inj H
 go_enter Try.func10, Try.ntmps10
 go_wp2_with (first | ((with_reducible refine gate_dst (N := 2) rfl ?_); refine box_event ?hg (N := 2) ?hd (cs := #[.slice A0_0 l0_0.length c0_0, .slice A0_1 l0_1.length c0_1]) (t := 30) ?hr ?_; (case hd => rfl); (case hg => rfl); (case hr => first | (go_simp; done) | (go_simp; rfl)); intro gb242 hg w15 hbox hb; have BK242 := As.mk (hbox); have GW242 := As.mk (gs w hg); have GE242 := As.mk (gs w hg); replace HB := As.mk (below_step (be w) hb); clear hb hbox hg; obtain ⟨hcz16_0, hcz16_1, hfz16_0, hfz16_1⟩ := cl2 BK242.out) | ((with_reducible refine gate_callee (f := 22) rfl ?_); refine goesL_ (some 8) rfl rfl Try.func22 (by kernel_rfl) rfl #[.slice A0_0 l0_0.length c0_0, .int .i64 a1] rfl (by (try simp only [lm]); first | done | rfl | (simp only [List.length_drop, List.length_take]; rfl)) ?_; (with_reducible refine (laws_heldNodeS.calls k _ _ l0_0 a1 t243 _ ?side1 ?side2 A3.out).mono ?_); (case side1 => exact Kd.C_below HR0_0.out (be w)); (case side2 => exact HC0_0.out); rintro e w17 ⟨rfl, hb⟩; refine ⟨_, rfl, ?_⟩; replace BK242 := As.mk (blk_below (bx BK242.out) hb); replace HB := As.mk (below_step (be w) hb); (try clear hb); (try clear hb2); (try clear hk); (try clear hi); obtain ⟨hcz18_0, hcz18_1, hfz18_0, hfz18_1⟩ := cl2 BK242.out) | ((with_reducible refine gate_callee (f := 23) rfl ?_); refine goesL_ (some 14) rfl rfl Try.func23 (by kernel_rfl) rfl #[.slice A0_1 l0_1.length c0_1, .int .i64 t243] rfl (by (try simp only [lm]); first | done | rfl | (simp only [List.length_drop, List.length_take]; rfl)) ?_; (with_reducible refine (laws_heldFnS.calls k _ _ l0_1 t243 t244 _ ?side1 ?side2 A8.out).mono ?_); (case side1 => exact Kd.C_below HR0_1.out (be w)); (case side2 => exact HC0_1.out); rintro e w19 ⟨rfl, hb⟩; refine ⟨_, rfl, ?_⟩; replace HB := As.mk (below_step (be w) hb); (try clear hb); (try clear hb2); (try clear hk); (try clear hi)))
 go_ret
 exact ⟨ez, be w⟩

/-! spans of the heap -/
theorem sp_cut {W w' : World} (hb : Below W.heap.size W w') : ∃ n : Nat, n = W.heap.size := ⟨_, rfl⟩
theorem sp_new {α : Type} {d : Kd α} {e n base : Nat} {w' : World} {ok : Nat → Prop} {v : Value} {xs : List α} (hn : n = base) (h : Kd.S d e w' base ok v xs) : Kd.S d e w' base (fun k_ => n ≤ k_) v xs := Kd.S_mono (Kd.S_bound h) (fun k h => by rw [hn]; exact h.2.1)
theorem sp_any {α : Type} {d : Kd α} {e base : Nat} {w' : World} {ok : Nat → Prop} {v : Value} {xs : List α} (h : Kd.S d e w' base ok v xs) : Kd.S d e w' base (fun k_ => 0 ≤ k_) v xs := Kd.S_mono h (fun k _ => Nat.zero_le k)
theorem sp_old {α : Type} {d : Kd α} {e n base : Nat} {W w' : World} {ok : Nat → Prop} {v : Value} {xs : List α} (hn : n = W.heap.size) (h : Kd.S d e W base ok v xs) (hb : Below W.heap.size W w') : Kd.S d e w' base (fun k_ => ok k_ ∧ k_ < n) v xs :=
  Kd.S_mono (Kd.S_below (Kd.S_bound h) hb) (fun k h => ⟨h.1, by rw [hn]; exact h.2.2.1⟩)
/-! ### laws_FnExactPacked: function 3 -/
mutual
def laws_FnExactPacked.j0 : Nat → Bool → Bool → Bool → List (S58) → List (S62) → List (S64) → List (S44) → List (S64) → List (S44) → List (S64) → List (S44) → Option (Bool)
 | 0, _, _, _, _, _, _, _, _, _, _, _ => none
 | k + 1, x5, x8, x40, x246000, x246001, x261000, x261001, x268000, x268001, x276000, x276001 => if x40 = true then (some false) else ((laws_toProgram.f k x246000 x246001).bind fun bt277 => ((laws_eqProgram.f k x268000 x268001 bt277.1 bt277.2).bind fun t283 => (if t283 = true then ((laws_markProgram.f x268000 x268001 1).bind fun bt284 => (if bt284.1 < 0 then (laws_FnExactPacked.j1 k x5 true x246000 x246001 x261000 x261001 x276000 x276001) else ((laws_eqProgram.f k x276000 x276001 x261000 x261001).bind fun t287 => (if t287 = true then (laws_FnExactPacked.j1 k x5 (x8 != x5) x246000 x246001 x261000 x261001 x276000 x276001) else (laws_FnExactPacked.j1 k x5 true x246000 x246001 x261000 x261001 x276000 x276001))))) else (some false))))
def laws_FnExactPacked.j1 : Nat → Bool → Bool → List (S58) → List (S62) → List (S64) → List (S44) → List (S64) → List (S44) → Option (Bool)
 | 0, _, _, _, _, _, _, _, _ => none
 | k + 1, x5, x61, x246000, x246001, x261000, x261001, x276000, x276001 => if x61 = true then (some false) else ((laws_markProgram.f x276000 x276001 1).bind fun bt288 => ((laws_heldProgram.f k bt288.2.1 bt288.2.2 1).bind fun t291 => (if t291 < 0 then (some false) else (if t291 = bt288.1 then ((laws_toProgram.f k x246000 x246001).bind fun bt292 => ((impl_Packed.f bt292.1 bt292.2).bind fun bt298 => ((laws_eqProgram.f k bt298.1 bt298.2.1 x261000 x261001).bind fun t306 => (if t306 = true then (laws_FnExactPacked.j2 k bt288.1 (bt298.2.2 != x5) bt288.2.1 bt288.2.2) else (laws_FnExactPacked.j2 k bt288.1 true bt288.2.1 bt288.2.2))))) else (some false)))))
def laws_FnExactPacked.j2 : Nat → Int → Bool → List (S64) → List (S44) → Option (Bool)
 | 0, _, _, _, _ => none
 | k + 1, x10, x87, x276000, x276001 => if x87 = true then (some false) else ((laws_heldProgram.f k x276000 x276001 1).bind fun t307 => (if t307 < 0 then (some false) else (if t307 = x10 then (some true) else (some false))))
end
def laws_FnExactPacked.f (k : Nat) (l0_0 : List (S58)) (l0_1 : List (S62)) : Option (Bool) := (laws_szProgram.f k l0_0 l0_1 1048576).bind fun t246 => (if t246 < 0 then (some true) else ((laws_toProgram.f k l0_0 l0_1).bind fun bt247 => ((spec_Packed.f bt247.1 bt247.2).bind fun bt253 => ((laws_toProgram.f k l0_0 l0_1).bind fun bt261 => ((impl_Packed.f bt261.1 bt261.2).bind fun bt268 => ((laws_eqProgram.f k bt268.1 bt268.2.1 bt253.1 bt253.2.1).bind fun t276 => (if t276 = true then (laws_FnExactPacked.j0 k bt253.2.2 bt268.2.2 (bt268.2.2 != bt253.2.2) l0_0 l0_1 bt253.1 bt253.2.1 bt261.1 bt261.2 bt268.1 bt268.2.1) else (laws_FnExactPacked.j0 k bt253.2.2 bt268.2.2 true l0_0 l0_1 bt253.1 bt253.2.1 bt261.1 bt261.2 bt268.1 bt268.2.1))))))))
theorem laws_FnExactPacked.mono_l : ∀ k, (∀ y0 y1 y2 y3 y4 y5 y6 y7 y8 y9 y10, LeO (laws_FnExactPacked.j0 k y0 y1 y2 y3 y4 y5 y6 y7 y8 y9 y10) (laws_FnExactPacked.j0 (k + 1) y0 y1 y2 y3 y4 y5 y6 y7 y8 y9 y10)) ∧ (∀ y0 y1 y2 y3 y4 y5 y6 y7, LeO (laws_FnExactPacked.j1 k y0 y1 y2 y3 y4 y5 y6 y7) (laws_FnExactPacked.j1 (k + 1) y0 y1 y2 y3 y4 y5 y6 y7)) ∧ (∀ y0 y1 y2 y3, LeO (laws_FnExactPacked.j2 k y0 y1 y2 y3) (laws_FnExactPacked.j2 (k + 1) y0 y1 y2 y3))
 | 0 => ⟨fun _ _ _ _ _ _ _ _ _ _ _ r h => by simp [laws_FnExactPacked.j0] at h, fun _ _ _ _ _ _ _ _ r h => by simp [laws_FnExactPacked.j1] at h, fun _ _ _ _ r h => by simp [laws_FnExactPacked.j2] at h⟩
 | k + 1 => by
  obtain ⟨ih0, ih1, ih2⟩ := laws_FnExactPacked.mono_l k
  refine ⟨?_, ?_, ?_⟩
  ·
   intro y0 y1 y2 y3 y4 y5 y6 y7 y8 y9 y10
   unfold laws_FnExactPacked.j0
   with_reducible repeat' first | exact ih0 _ _ _ _ _ _ _ _ _ _ _ | exact ih1 _ _ _ _ _ _ _ _ | exact ih2 _ _ _ _ | exact laws_eqProgram.mono _ _ _ _ _ | exact laws_heldProgram.mono _ _ _ _ | exact laws_szProgram.mono _ _ _ _ | exact laws_toProgram.mono _ _ _ | exact LeO.refl _ | exact LeO.none _ | refine LeO.ite ?_ ?_ | refine LeO.bind ?_ (fun _ => ?_)
  ·
   intro y0 y1 y2 y3 y4 y5 y6 y7
   unfold laws_FnExactPacked.j1
   with_reducible repeat' first | exact ih0 _ _ _ _ _ _ _ _ _ _ _ | exact ih1 _ _ _ _ _ _ _ _ | exact ih2 _ _ _ _ | exact laws_eqProgram.mono _ _ _ _ _ | exact laws_heldProgram.mono _ _ _ _ | exact laws_szProgram.mono _ _ _ _ | exact laws_toProgram.mono _ _ _ | exact LeO.refl _ | exact LeO.none _ | refine LeO.ite ?_ ?_ | refine LeO.bind ?_ (fun _ => ?_)
  ·
   intro y0 y1 y2 y3
   unfold laws_FnExactPacked.j2
   with_reducible repeat' first | exact ih0 _ _ _ _ _ _ _ _ _ _ _ | exact ih1 _ _ _ _ _ _ _ _ | exact ih2 _ _ _ _ | exact laws_eqProgram.mono _ _ _ _ _ | exact laws_heldProgram.mono _ _ _ _ | exact laws_szProgram.mono _ _ _ _ | exact laws_toProgram.mono _ _ _ | exact LeO.refl _ | exact LeO.none _ | refine LeO.ite ?_ ?_ | refine LeO.bind ?_ (fun _ => ?_)
theorem laws_FnExactPacked.mono : ∀ a0 a1 k, LeO (laws_FnExactPacked.f k a0 a1) (laws_FnExactPacked.f (k + 1) a0 a1) := by
 intro a0 a1 k
 obtain ⟨ih0, ih1, ih2⟩ := laws_FnExactPacked.mono_l k
 unfold laws_FnExactPacked.f
 with_reducible repeat' first | exact ih0 _ _ _ _ _ _ _ _ _ _ _ | exact ih1 _ _ _ _ _ _ _ _ | exact ih2 _ _ _ _ | exact laws_eqProgram.mono _ _ _ _ _ | exact laws_heldProgram.mono _ _ _ _ | exact laws_szProgram.mono _ _ _ _ | exact laws_toProgram.mono _ _ _ | exact LeO.refl _ | exact LeO.none _ | refine LeO.ite ?_ ?_ | refine LeO.bind ?_ (fun _ => ?_)
set_option maxHeartbeats 8000000 in
set_option maxRecDepth 100000 in
theorem laws_FnExactPacked.calls (k : Nat) (A0_0 : Option Addr) (c0_0 : Nat) (l0_0 : List (S58)) (A0_1 : Option Addr) (c0_1 : Nat) (l0_1 : List (S62)) (r : Bool) (w : World) (hr0_0 : Kd.C k58 w A0_0 l0_0.length l0_0) (hc0_0 : l0_0.length ≤ c0_0) (hr0_1 : Kd.C k62 w A0_1 l0_1.length l0_1) (hc0_1 : l0_1.length ≤ c0_1) (hrt : As (r = true)) (h : laws_FnExactPacked.f k l0_0 l0_1 = some r) :
  Calls Try.prog 3 #[.agg #[.slice A0_0 l0_0.length c0_0, .slice A0_1 l0_1.length c0_1]] w fun e w' => e = .returned (.bool r) ∧ Below w.heap.size w w' := by
 have hu25 := Try.underlying25
 have hu30 := Try.underlying30
 have HR0_0 := As.mk hr0_0
 have HC0_0 := As.mk hc0_0
 clear hr0_0 hc0_0
 have HR0_1 := As.mk hr0_1
 have HC0_1 := As.mk hc0_1
 clear hr0_1 hc0_1
 have HB := As.mk (Below.refl w.heap.size w)
 have H : ((laws_szProgram.f k l0_0 l0_1 1048576).bind fun t246 => (if t246 < 0 then (some true) else ((laws_toProgram.f k l0_0 l0_1).bind fun bt247 => ((spec_Packed.f bt247.1 bt247.2).bind fun bt253 => ((laws_toProgram.f k l0_0 l0_1).bind fun bt261 => ((impl_Packed.f bt261.1 bt261.2).bind fun bt268 => ((laws_eqProgram.f k bt268.1 bt268.2.1 bt253.1 bt253.2.1).bind fun t276 => (if t276 = true then (laws_FnExactPacked.j0 k bt253.2.2 bt268.2.2 (bt268.2.2 != bt253.2.2) l0_0 l0_1 bt253.1 bt253.2.1 bt261.1 bt261.2 bt268.1 bt268.2.1) else (laws_FnExactPacked.j0 k bt253.2.2 bt268.2.2 true l0_0 l0_1 bt253.1 bt253.2.1 bt261.1 bt261.2 bt268.1 bt268.2.1))))))))) = some r := h
 clear h
 obtain ⟨t246, A20, H⟩ := Option.bind_eq_some_iff.mp H
 try dsimp only at H
 have A2 := As.mk A20
 clear A20
 by_cases c3 : t246 < 0
 ·
  rw [if_pos c3] at H
  have c3b0 : decide (t246 < 0) = true := decide_eq_true c3
  clear c3
  obtain rfl := Option.some.inj H
  go_enter Try.func3, Try.ntmps3
  go_wp2_with (first | ((with_reducible refine gate_dst (N := 1) rfl ?_); refine box_event ?hg (N := 1) ?hd (cs := #[.slice A0_0 l0_0.length c0_0, .slice A0_1 l0_1.length c0_1]) (t := 25) ?hr ?_; (case hd => rfl); (case hg => rfl); (case hr => first | (go_simp; done) | (go_simp; rfl)); intro gb245 hg w4 hbox hb; have BK245 := As.mk (hbox); have GW245 := As.mk (gs w hg); have GE245 := As.mk (gs w hg); replace HB := As.mk (below_step (be w) hb); clear hb hbox hg; obtain ⟨hcz5_0, hcz5_1, hfz5_0, hfz5_1⟩ := cl2 BK245.out) | ((with_reducible refine gate_callee (f := 4) rfl ?_); refine goesL_ (some 16) rfl rfl Try.func4 (by kernel_rfl) rfl #[.agg #[.slice A0_0 l0_0.length c0_0, .slice A0_1 l0_1.length c0_1], .int .i64 1048576] rfl (by (try simp only [lm]); first | done | rfl | (simp only [List.length_drop, List.length_take]; rfl)) ?_; (with_reducible refine (laws_szProgram.calls k _ _ l0_0 _ _ l0_1 1048576 t246 _ ?side1 ?side2 ?side3 ?side4 A2.out).mono ?_); (case side1 => exact Kd.C_below HR0_0.out (be w)); (case side2 => exact HC0_0.out); (case side3 => exact Kd.C_below HR0_1.out (be w)); (case side4 => exact HC0_1.out); rintro e w6 ⟨rfl, hb⟩; refine ⟨_, rfl, ?_⟩; replace HB := As.mk (below_step (be w) hb); (try clear hb); (try clear hb2); (try clear hk); (try clear hi)))
  go_ret
  exact ⟨ez, be w⟩
 rw [if_neg c3] at H
 have c3b0 : decide (t246 < 0) = false := decide_eq_false c3
 clear c3
 obtain ⟨⟨t247, t250⟩, A70, H⟩ := Option.bind_eq_some_iff.mp H
 try dsimp only at H
 have A7 := As.mk A70
 clear A70
 obtain ⟨⟨t253, t256, t259⟩, A80, H⟩ := Option.bind_eq_some_iff.mp H
 try dsimp only at H
 have A8 := As.mk A80
 clear A80
 obtain ⟨⟨t261, t264⟩, A90, H⟩ := Option.bind_eq_some_iff.mp H
 try dsimp only at H
 have A9 := As.mk A90
 clear A90
 obtain ⟨⟨t268, t271, t274⟩, A100, H⟩ := Option.bind_eq_some_iff.mp H
 try dsimp only at H
 have A10 := As.mk A100
 clear A100
 have HC11 := As.mk H
 clear H
 go_enter Try.func3, Try.ntmps3
 go_upto_region 8 with (first | ((with_reducible refine gate_dst (N := 1) rfl ?_); refine box_event ?hg (N := 1) ?hd (cs := #[.slice A0_0 l0_0.length c0_0, .slice A0_1 l0_1.length c0_1]) (t := 25) ?hr ?_; (case hd => rfl); (case hg => rfl); (case hr => first | (go_simp; done) | (go_simp; rfl)); intro gb245 hg w12 hbox hb; have BK245 := As.mk (hbox); have GW245 := As.mk (gs w hg); have GE245 := As.mk (gs w hg); replace HB := As.mk (below_step (be w) hb); clear hb hbox hg; obtain ⟨hcz13_0, hcz13_1, hfz13_0, hfz13_1⟩ := cl2 BK245.out) | ((with_reducible refine gate_callee (f := 4) rfl ?_); refine goesL_ (some 16) rfl rfl Try.func4 (by kernel_rfl) rfl #[.agg #[.slice A0_0 l0_0.length c0_0, .slice A0_1 l0_1.length c0_1], .int .i64 1048576] rfl (by (try simp only [lm]); first | done | rfl | (simp only [List.length_drop, List.length_take]; rfl)) ?_; (with_reducible refine (laws_szProgram.calls k _ _ l0_0 _ _ l0_1 1048576 t246 _ ?side1 ?side2 ?side3 ?side4 A2.out).mono ?_); (case side1 => exact Kd.C_below HR0_0.out (be w)); (case side2 => exact HC0_0.out); (case side3 => exact Kd.C_below HR0_1.out (be w)); (case side4 => exact HC0_1.out); rintro e w14 ⟨rfl, hb⟩; refine ⟨_, rfl, ?_⟩; replace BK245 := As.mk (blk_below (bx BK245.out) hb); replace HB := As.mk (below_step (be w) hb); (try clear hb); (try clear hb2); (try clear hk); (try clear hi); obtain ⟨hcz15_0, hcz15_1, hfz15_0, hfz15_1⟩ := cl2 BK245.out) | ((with_reducible refine gate_callee (f := 6) rfl ?_); refine goesL_ (some 21) rfl rfl Try.func6 (by kernel_rfl) rfl #[.agg #[.slice A0_0 l0_0.length c0_0, .slice A0_1 l0_1.length c0_1]] rfl (by (try simp only [lm]); first | done | rfl | (simp only [List.length_drop, List.length_take]; rfl)) ?_; (with_reducible refine (laws_toProgram.calls k _ _ l0_0 _ _ l0_1 t247 t250 _ ?side1 ?side2 ?side3 ?side4 A7.out).mono ?_); (case side1 => exact Kd.C_below HR0_0.out (be w)); (case side2 => exact HC0_0.out); (case side3 => exact Kd.C_below HR0_1.out (be w)); (case side4 => exact HC0_1.out); rintro e w16 ⟨v248, v251, rfl, ho0, ho1, hb⟩; refine ⟨_, rfl, ?_⟩; have HO249 := As.mk (Kd.S_lower (sp_any ho0) (below_size (be w))); have HO252 := As.mk (Kd.S_lower (sp_any ho1) (below_size (be w))); replace BK245 := As.mk (blk_below (bx BK245.out) hb); replace HB := As.mk (below_step (be w) hb); (try clear hb); (try clear hb2); (try clear hk); (try clear hi); (try clear ho0); (try clear ho1); obtain ⟨Ao17, co17, eo17⟩ := Kd.S_slice HO249.out; subst eo17; obtain ⟨Ao18, co18, eo18⟩ := Kd.S_slice HO252.out; subst eo18) | ((with_reducible refine gate_callee (f := 5) rfl ?_); refine goesL_ (some 22) rfl rfl Try.func5 (by kernel_rfl) rfl #[.agg #[.slice Ao17 t247.length co17, .slice Ao18 t250.length co18]] rfl (by (try simp only [lm]); first | done | rfl | (simp only [List.length_drop, List.length_take]; rfl)) ?_; (with_reducible refine (spec_Packed.calls _ _ t247 _ _ t250 t253 t256 t259 _ ?side1 ?side2 ?side3 ?side4 A8.out).mono ?_); (case side1 => repeat (first | exact (Kd.S_reads' HO249.out).2.2 | (with_reducible refine Kd.C_alloc ?_ _) | (with_reducible refine Kd.C_drewN ?_ _) | (with_reducible refine Kd.C_drew ?_))); (case side2 => exact (Kd.S_reads' HO249.out).2.1); (case side3 => repeat (first | exact (Kd.S_reads' HO252.out).2.2 | (with_reducible refine Kd.C_alloc ?_ _) | (with_reducible refine Kd.C_drewN ?_ _) | (with_reducible refine Kd.C_drew ?_))); (case side4 => exact (Kd.S_reads' HO252.out).2.1); rintro e w19 ⟨v254, v257, rfl, ho0, ho1, hb⟩; refine ⟨_, rfl, ?_⟩; have HO255 := As.mk (Kd.S_lower (sp_any ho0) (below_size (be w))); replace HO249 := As.mk (Kd.S_below (by (with_reducible repeat (first | apply Kd.S_alloc | apply Kd.S_drewN | apply Kd.S_drew)); exact HO249.out) hb); have HO258 := As.mk (Kd.S_lower (sp_any ho1) (below_size (be w))); replace HO252 := As.mk (Kd.S_below (by (with_reducible repeat (first | apply Kd.S_alloc | apply Kd.S_drewN | apply Kd.S_drew)); exact HO252.out) hb); replace BK245 := As.mk (blk_below (bx BK245.out) hb); replace HB := As.mk (below_step (be w) hb); (try clear hb); (try clear hb2); (try clear hk); (try clear hi); (try clear ho0); (try clear ho1)) | ((with_reducible refine gate_dst (N := 4) rfl ?_); refine box_event ?hg (N := 4) ?hd (cs := #[.slice none 0 0, .slice none 0 0]) (t := 30) ?hr ?_; (case hd => rfl); (case hg => rfl); (case hr => first | (go_simp; done) | (go_simp; rfl)); intro gb260 hg w20 hbox hb; replace HO255 := As.mk (Kd.S_below (by (with_reducible repeat (first | apply Kd.S_alloc | apply Kd.S_drewN | apply Kd.S_drew)); exact HO255.out) hb); replace HO258 := As.mk (Kd.S_below (by (with_reducible repeat (first | apply Kd.S_alloc | apply Kd.S_drewN | apply Kd.S_drew)); exact HO258.out) hb); have BK260 := As.mk (hbox); have GW260 := As.mk (gs w hg); have GE260 := As.mk (gs w hg); replace HB := As.mk (below_step (be w) hb); have NB245_260 := As.mk (nl hg (bx BK245.out)); have NB260_245 := As.mk (ng hg (bx BK245.out)); replace BK245 := As.mk (blk_below (bx BK245.out) hb); clear hb hbox hg; obtain ⟨Ao21, co21, eo21⟩ := Kd.S_slice HO255.out; subst eo21; have hnb22 := NB260_245.out; have hnc22 := NB245_260.out; obtain ⟨hcz23_0, hcz23_1, hfz23_0, hfz23_1⟩ := cl2 BK260.out; obtain ⟨Ao24, co24, eo24⟩ := Kd.S_slice HO258.out; subst eo24; obtain ⟨hcz25_0, hcz25_1, hfz25_0, hfz25_1⟩ := cl2 BK245.out) | ((with_reducible refine gate_callee (f := 6) rfl ?_); refine goesL_ (some 26) rfl rfl Try.func6 (by kernel_rfl) rfl #[.agg #[.slice A0_0 l0_0.length c0_0, .slice A0_1 l0_1.length c0_1]] rfl (by (try simp only [lm]); first | done | rfl | (simp only [List.length_drop, List.length_take]; rfl)) ?_; (with_reducible refine (laws_toProgram.calls k _ _ l0_0 _ _ l0_1 t261 t264 _ ?side1 ?side2 ?side3 ?side4 A9.out).mono ?_); (case side1 => exact Kd.C_below HR0_0.out (be w)); (case side2 => exact HC0_0.out); (case side3 => exact Kd.C_below HR0_1.out (be w)); (case side4 => exact HC0_1.out); rintro e w26 ⟨v262, v265, rfl, ho0, ho1, hb⟩; refine ⟨_, rfl, ?_⟩; obtain ⟨n1, hn1⟩ := sp_cut hb; have HO263 := As.mk (Kd.S_lower (sp_new hn1 ho0) (below_size (be w))); replace HO255 := As.mk (sp_old hn1 (by (with_reducible repeat (first | apply Kd.S_alloc | apply Kd.S_drewN | apply Kd.S_drew)); exact (Kd.S_mono (Kd.S_far (p := ⟨gb260, 1, none⟩) (Kd.S_far (p := ⟨gb260, 0, none⟩) (Kd.S_types HO255.out BK260.out (by decide)) (fun _ hk => hk.2) (.slice Ao21 t253.length co21)) (fun _ hk => hk.2) (.slice Ao24 t256.length co24)) (fun _ h_ => h_.1))) hb); have HO266 := As.mk (Kd.S_lower (sp_new hn1 ho1) (below_size (be w))); replace HO258 := As.mk (sp_old hn1 (by (with_reducible repeat (first | apply Kd.S_alloc | apply Kd.S_drewN | apply Kd.S_drew)); exact (Kd.S_mono (Kd.S_far (p := ⟨gb260, 1, none⟩) (Kd.S_far (p := ⟨gb260, 0, none⟩) (Kd.S_types HO258.out BK260.out (by decide)) (fun _ hk => hk.2) (.slice Ao21 t253.length co21)) (fun _ hk => hk.2) (.slice Ao24 t256.length co24)) (fun _ h_ => h_.1))) hb); replace BK245 := As.mk (blk_below (g := gb245) (o := .cells #[.slice A0_0 l0_0.length c0_0, .slice A0_1 l0_1.length c0_1] 25 (0, 0)) (by refine pl ?_; refine blk_far ?_ NB245_260.out _; refine pl ?_; refine blk_far ?_ NB245_260.out _; exact bx BK245.out) hb); replace BK260 := As.mk (blk_below (g := gb260) (o := .cells #[.slice Ao21 t253.length co21, .slice Ao24 t256.length co24] 30 (0, 0)) (by refine pl ?_; refine blk_put (cs := #[.slice Ao21 t253.length co21, .slice none 0 0]) ?_ 1 _ rfl; refine pl ?_; refine blk_put (cs := #[.slice none 0 0, .slice none 0 0]) ?_ 0 _ rfl; exact bx BK260.out) hb); replace HB := As.mk (below_step (be w) hb); (try clear hn1); (try clear hb); (try clear hb2); (try clear hk); (try clear hi); (try clear ho0); (try clear ho1)) | ((with_reducible refine gate_dst (N := 6) rfl ?_); refine box_event ?hg (N := 6) ?hd (cs := #[.slice none 0 0, .slice none 0 0]) (t := 30) ?hr ?_; (case hd => rfl); (case hg => rfl); (case hr => first | (go_simp; done) | (go_simp; rfl)); intro gb267 hg w27 hbox hb; replace HO255 := As.mk (Kd.S_below (by (with_reducible repeat (first | apply Kd.S_alloc | apply Kd.S_drewN | apply Kd.S_drew)); exact HO255.out) hb); replace HO258 := As.mk (Kd.S_below (by (with_reducible repeat (first | apply Kd.S_alloc | apply Kd.S_drewN | apply Kd.S_drew)); exact HO258.out) hb); replace HO263 := As.mk (Kd.S_below (by (with_reducible repeat (first | apply Kd.S_alloc | apply Kd.S_drewN | apply Kd.S_drew)); exact HO263.out) hb); replace HO266 := As.mk (Kd.S_below (by (with_reducible repeat (first | apply Kd.S_alloc | apply Kd.S_drewN | apply Kd.S_drew)); exact HO266.out) hb); have BK267 := As.mk (hbox); have GW267 := As.mk (gs w hg); have GE267 := As.mk (gs w hg); replace HB := As.mk (below_step (be w) hb); have NB245_267 := As.mk (nl hg (bx BK245.out)); have NB267_245 := As.mk (ng hg (bx BK245.out)); replace BK245 := As.mk (blk_below (bx BK245.out) hb); have NB260_267 := As.mk (nl hg (bx BK260.out)); have NB267_260 := As.mk (ng hg (bx BK260.out)); replace BK260 := As.mk (blk_below (bx BK260.out) hb); clear hb hbox hg; obtain ⟨Ao28, co28, eo28⟩ := Kd.S_slice HO263.out; subst eo28; have hnb29 := NB267_245.out; have hnc29 := NB245_267.out; have hnb30 := NB267_260.out; have hnc30 := NB260_267.out; obtain ⟨hcz31_0, hcz31_1, hfz31_0, hfz31_1⟩ := cl2 BK267.out; obtain ⟨Ao32, co32, eo32⟩ := Kd.S_slice HO266.out; subst eo32) | ((with_reducible refine gate_callee (f := 7) rfl ?_); refine goesL_ (some 29) rfl rfl Try.func7 (by kernel_rfl) rfl #[.agg #[.slice Ao28 t261.length co28, .slice Ao32 t264.length co32]] rfl (by (try simp only [lm]); first | done | rfl | (simp only [List.length_drop, List.length_take]; rfl)) ?_; (with_reducible refine (impl_Packed.calls _ _ t261 _ _ t264 t268 t271 t274 _ ?side1 ?side2 ?side3 ?side4 A10.out).mono ?_); (case side1 => refine (Kd.S_reads' (e := 64) (base := w.heap.size) (ok := fun _ => True) (n := t261.length) (c := co28) ?_).2.2; exact (by (with_reducible repeat (first | apply Kd.S_alloc | apply Kd.S_drewN | apply Kd.S_drew)); exact (Kd.S_mono (Kd.S_far (p := ⟨gb267, 1, none⟩) (Kd.S_far (p := ⟨gb267, 0, none⟩) (Kd.S_types HO263.out BK267.out (by decide)) (fun _ hk => hk.2) (.slice Ao28 t261.length co28)) (fun _ hk => hk.2) (.slice Ao32 t264.length co32)) (fun _ _ => trivial)))); (case side2 => exact (Kd.S_reads' HO263.out).2.1); (case side3 => refine (Kd.S_reads' (e := 44) (base := w.heap.size) (ok := fun _ => True) (n := t264.length) (c := co32) ?_).2.2; exact (by (with_reducible repeat (first | apply Kd.S_alloc | apply Kd.S_drewN | apply Kd.S_drew)); exact (Kd.S_mono (Kd.S_far (p := ⟨gb267, 1, none⟩) (Kd.S_far (p := ⟨gb267, 0, none⟩) (Kd.S_types HO266.out BK267.out (by decide)) (fun _ hk => hk.2) (.slice Ao28 t261.length co28)) (fun _ hk => hk.2) (.slice Ao32 t264.length co32)) (fun _ _ => trivial)))); (case side4 => exact (Kd.S_reads' HO266.out).2.1); rintro e w33 ⟨v269, v272, rfl, ho0, ho1, hb⟩; refine ⟨_, rfl, ?_⟩; obtain ⟨n2, hn2⟩ := sp_cut hb; have HO270 := As.mk (Kd.S_lower (sp_new hn2 ho0) (below_size (be w))); replace HO255 := As.mk (sp_old hn2 (by (with_reducible repeat (first | apply Kd.S_alloc | apply Kd.S_drewN | apply Kd.S_drew)); exact (Kd.S_mono (Kd.S_far (p := ⟨gb267, 1, none⟩) (Kd.S_far (p := ⟨gb267, 0, none⟩) (Kd.S_types HO255.out BK267.out (by decide)) (fun _ hk => hk.2) (.slice Ao28 t261.length co28)) (fun _ hk => hk.2) (.slice Ao32 t264.length co32)) (fun _ h_ => h_.1))) hb); replace HO263 := As.mk (sp_old hn2 (by (with_reducible repeat (first | apply Kd.S_alloc | apply Kd.S_drewN | apply Kd.S_drew)); exact (Kd.S_mono (Kd.S_far (p := ⟨gb267, 1, none⟩) (Kd.S_far (p := ⟨gb267, 0, none⟩) (Kd.S_types HO263.out BK267.out (by decide)) (fun _ hk => hk.2) (.slice Ao28 t261.length co28)) (fun _ hk => hk.2) (.slice Ao32 t264.length co32)) (fun _ h_ => h_.1))) hb); have HO273 := As.mk (Kd.S_lower (sp_new hn2 ho1) (below_size (be w))); replace HO258 := As.mk (sp_old hn2 (by (with_reducible repeat (first | apply Kd.S_alloc | apply Kd.S_drewN | apply Kd.S_drew)); exact (Kd.S_mono (Kd.S_far (p := ⟨gb267, 1, none⟩) (Kd.S_far (p := ⟨gb267, 0, none⟩) (Kd.S_types HO258.out BK267.out (by decide)) (fun _ hk => hk.2) (.slice Ao28 t261.length co28)) (fun _ hk => hk.2) (.slice Ao32 t264.length co32)) (fun _ h_ => h_.1))) hb); replace HO266 := As.mk (sp_old hn2 (by (with_reducible repeat (first | apply Kd.S_alloc | apply Kd.S_drewN | apply Kd.S_drew)); exact (Kd.S_mono (Kd.S_far (p := ⟨gb267, 1, none⟩) (Kd.S_far (p := ⟨gb267, 0, none⟩) (Kd.S_types HO266.out BK267.out (by decide)) (fun _ hk => hk.2) (.slice Ao28 t261.length co28)) (fun _ hk => hk.2) (.slice Ao32 t264.length co32)) (fun _ h_ => h_.1))) hb); replace BK245 := As.mk (blk_below (g := gb245) (o := .cells #[.slice A0_0 l0_0.length c0_0, .slice A0_1 l0_1.length c0_1] 25 (0, 0)) (by refine pl ?_; refine blk_far ?_ NB245_267.out _; refine pl ?_; refine blk_far ?_ NB245_267.out _; exact bx BK245.out) hb); replace BK260 := As.mk (blk_below (g := gb260) (o := .cells #[.slice Ao21 t253.length co21, .slice Ao24 t256.length co24] 30 (0, 0)) (by refine pl ?_; refine blk_far ?_ NB260_267.out _; refine pl ?_; refine blk_far ?_ NB260_267.out _; exact bx BK260.out) hb); replace BK267 := As.mk (blk_below (g := gb267) (o := .cells #[.slice Ao28 t261.length co28, .slice Ao32 t264.length co32] 30 (0, 0)) (by refine pl ?_; refine blk_put (cs := #[.slice Ao28 t261.length co28, .slice none 0 0]) ?_ 1 _ rfl; refine pl ?_; refine blk_put (cs := #[.slice none 0 0, .slice none 0 0]) ?_ 0 _ rfl; exact bx BK267.out) hb); replace HB := As.mk (below_step (be w) hb); (try clear hn2); (try clear hb); (try clear hb2); (try clear hk); (try clear hi); (try clear ho0); (try clear ho1)) | ((with_reducible refine gate_dst (N := 7) rfl ?_); refine box_event ?hg (N := 7) ?hd (cs := #[.slice none 0 0, .slice none 0 0]) (t := 30) ?hr ?_; (case hd => rfl); (case hg => rfl); (case hr => first | (go_simp; done) | (go_simp; rfl)); intro gb275 hg w34 hbox hb; replace HO255 := As.mk (Kd.S_below (by (with_reducible repeat (first | apply Kd.S_alloc | apply Kd.S_drewN | apply Kd.S_drew)); exact HO255.out) hb); replace HO258 := As.mk (Kd.S_below (by (with_reducible repeat (first | apply Kd.S_alloc | apply Kd.S_drewN | apply Kd.S_drew)); exact HO258.out) hb); replace HO263 := As.mk (Kd.S_below (by (with_reducible repeat (first | apply Kd.S_alloc | apply Kd.S_drewN | apply Kd.S_drew)); exact HO263.out) hb); replace HO266 := As.mk (Kd.S_below (by (with_reducible repeat (first | apply Kd.S_alloc | apply Kd.S_drewN | apply Kd.S_drew)); exact HO266.out) hb); replace HO270 := As.mk (Kd.S_below (by (with_reducible repeat (first | apply Kd.S_alloc | apply Kd.S_drewN | apply Kd.S_drew)); exact HO270.out) hb); replace HO273 := As.mk (Kd.S_below (by (with_reducible repeat (first | apply Kd.S_alloc | apply Kd.S_drewN | apply Kd.S_drew)); exact HO273.out) hb); have BK275 := As.mk (hbox); have GW275 := As.mk (gs w hg); have GE275 := As.mk (gs w hg); replace HB := As.mk (below_step (be w) hb); have NB245_275 := As.mk (nl hg (bx BK245.out)); have NB275_245 := As.mk (ng hg (bx BK245.out)); replace BK245 := As.mk (blk_below (bx BK245.out) hb); have NB260_275 := As.mk (nl hg (bx BK260.out)); have NB275_260 := As.mk (ng hg (bx BK260.out)); replace BK260 := As.mk (blk_below (bx BK260.out) hb); have NB267_275 := As.mk (nl hg (bx BK267.out)); have NB275_267 := As.mk (ng hg (bx BK267.out)); replace BK267 := As.mk (blk_below (bx BK267.out) hb); clear hb hbox hg; obtain ⟨Ao35, co35, eo35⟩ := Kd.S_slice HO270.out; subst eo35; have hnb36 := NB275_245.out; have hnc36 := NB245_275.out; have hnb37 := NB275_260.out; have hnc37 := NB260_275.out; have hnb38 := NB275_267.out; have hnc38 := NB267_275.out; obtain ⟨hcz39_0, hcz39_1, hfz39_0, hfz39_1⟩ := cl2 BK275.out; obtain ⟨Ao40, co40, eo40⟩ := Kd.S_slice HO273.out; subst eo40))
 (try simp only [pk])
 go_cut [40] (fun v40 wc => ∃ (kq : Nat) (x40_10 : Bool), v40 = .bool x40_10 ∧ As (laws_FnExactPacked.j0 kq t259 t274 x40_10 l0_0 l0_1 t253 t256 t261 t264 t268 t271 = some r) ∧ As (kq ≤ k) ∧ As (Kd.S k64 64 wc w.heap.size (fun k_ => k_ < n1 ∧ k_ < n2) (.slice Ao21 t253.length co21) t253) ∧ As (Kd.S k44 44 wc w.heap.size (fun k_ => k_ < n1 ∧ k_ < n2) (.slice Ao24 t256.length co24) t256) ∧ As (Kd.S k64 64 wc w.heap.size (fun k_ => n1 ≤ k_ ∧ k_ < n2) (.slice Ao28 t261.length co28) t261) ∧ As (Kd.S k44 44 wc w.heap.size (fun k_ => n1 ≤ k_ ∧ k_ < n2) (.slice Ao32 t264.length co32) t264) ∧ As (Kd.S k64 64 wc w.heap.size (fun k_ => n2 ≤ k_) (.slice Ao35 t268.length co35) t268) ∧ As (Kd.S k44 44 wc w.heap.size (fun k_ => n2 ≤ k_) (.slice Ao40 t271.length co40) t271) ∧ As (wc.heap[gb245]? = some (.cells #[(.slice A0_0 l0_0.length c0_0), (.slice A0_1 l0_1.length c0_1)] 25 (0, 0))) ∧ As (wc.heap[gb260]? = some (.cells #[(.slice Ao21 t253.length co21), (.slice Ao24 t256.length co24)] 30 (0, 0))) ∧ As (wc.heap[gb267]? = some (.cells #[(.slice Ao28 t261.length co28), (.slice Ao32 t264.length co32)] 30 (0, 0))) ∧ As (wc.heap[gb275]? = some (.cells #[(.slice Ao35 t268.length co35), (.slice Ao40 t271.length co40)] 30 (0, 0))) ∧ As (Below w.heap.size w wc))
 case first =>
  have H := HC11.out
  clear HC11
  obtain ⟨t276, A410, H⟩ := Option.bind_eq_some_iff.mp H
  try dsimp only at H
  have A41 := As.mk A410
  clear A410
  by_cases c42 : t276 = true
  ·
   subst c42
   rw [if_pos rfl] at H
   have H' := As.mk H
   clear H
   have hnb43 := NB275_245.out
   have hnc43 := NB245_275.out
   have hnb44 := NB275_260.out
   have hnc44 := NB260_275.out
   have hnb45 := NB275_267.out
   have hnc45 := NB267_275.out
   obtain ⟨hcz46_0, hcz46_1, hfz46_0, hfz46_1⟩ := cl2 BK275.out
   have hnb47 := NB260_245.out
   have hnc47 := NB245_260.out
   have hnb48 := NB260_267.out
   have hnc48 := NB267_260.out
   obtain ⟨hcz49_0, hcz49_1, hfz49_0, hfz49_1⟩ := cl2 BK260.out
   go_wp2_with (first | ((with_reducible refine gate_callee (f := 8) rfl ?_); refine goesL_ (some 34) rfl rfl Try.func8 (by kernel_rfl) rfl #[.agg #[.slice Ao35 t268.length co35, .slice Ao40 t271.length co40], .agg #[.slice Ao21 t253.length co21, .slice Ao24 t256.length co24]] rfl (by (try simp only [lm]); first | done | rfl | (simp only [List.length_drop, List.length_take]; rfl)) ?_; (with_reducible refine (laws_eqProgram.calls k _ _ t268 _ _ t271 _ _ t253 _ _ t256 true _ ?side1 ?side2 ?side3 ?side4 ?side5 ?side6 ?side7 ?side8 A41.out).mono ?_); (case side1 => refine (Kd.S_reads' (e := 64) (base := w.heap.size) (ok := fun _ => True) (n := t268.length) (c := co35) ?_).2.2; exact (by (with_reducible repeat (first | apply Kd.S_alloc | apply Kd.S_drewN | apply Kd.S_drew)); exact (Kd.S_mono (Kd.S_far (p := ⟨gb275, 1, none⟩) (Kd.S_far (p := ⟨gb275, 0, none⟩) (Kd.S_types HO270.out BK275.out (by decide)) (fun _ hk => hk.2) (.slice Ao35 t268.length co35)) (fun _ hk => hk.2) (.slice Ao40 t271.length co40)) (fun _ _ => trivial)))); (case side2 => exact (Kd.S_reads' HO270.out).2.1); (case side3 => refine (Kd.S_reads' (e := 44) (base := w.heap.size) (ok := fun _ => True) (n := t271.length) (c := co40) ?_).2.2; exact (by (with_reducible repeat (first | apply Kd.S_alloc | apply Kd.S_drewN | apply Kd.S_drew)); exact (Kd.S_mono (Kd.S_far (p := ⟨gb275, 1, none⟩) (Kd.S_far (p := ⟨gb275, 0, none⟩) (Kd.S_types HO273.out BK275.out (by decide)) (fun _ hk => hk.2) (.slice Ao35 t268.length co35)) (fun _ hk => hk.2) (.slice Ao40 t271.length co40)) (fun _ _ => trivial)))); (case side4 => exact (Kd.S_reads' HO273.out).2.1); (case side5 => refine (Kd.S_reads' (e := 64) (base := w.heap.size) (ok := fun _ => True) (n := t253.length) (c := co21) ?_).2.2; exact (by (with_reducible repeat (first | apply Kd.S_alloc | apply Kd.S_drewN | apply Kd.S_drew)); exact (Kd.S_mono (Kd.S_far (p := ⟨gb275, 1, none⟩) (Kd.S_far (p := ⟨gb275, 0, none⟩) (Kd.S_types HO255.out BK275.out (by decide)) (fun _ hk => hk.2) (.slice Ao35 t268.length co35)) (fun _ hk => hk.2) (.slice Ao40 t271.length co40)) (fun _ _ => trivial)))); (case side6 => exact (Kd.S_reads' HO255.out).2.1); (case side7 => refine (Kd.S_reads' (e := 44) (base := w.heap.size) (ok := fun _ => True) (n := t256.length) (c := co24) ?_).2.2; exact (by (with_reducible repeat (first | apply Kd.S_alloc | apply Kd.S_drewN | apply Kd.S_drew)); exact (Kd.S_mono (Kd.S_far (p := ⟨gb275, 1, none⟩) (Kd.S_far (p := ⟨gb275, 0, none⟩) (Kd.S_types HO258.out BK275.out (by decide)) (fun _ hk => hk.2) (.slice Ao35 t268.length co35)) (fun _ hk => hk.2) (.slice Ao40 t271.length co40)) (fun _ _ => trivial)))); (case side8 => exact (Kd.S_reads' HO258.out).2.1); rintro e w50 ⟨rfl, hb⟩; refine ⟨_, rfl, ?_⟩; replace HO255 := As.mk (Kd.S_below (by (with_reducible repeat (first | apply Kd.S_alloc | apply Kd.S_drewN | apply Kd.S_drew)); exact (Kd.S_mono (Kd.S_far (p := ⟨gb275, 1, none⟩) (Kd.S_far (p := ⟨gb275, 0, none⟩) (Kd.S_types HO255.out BK275.out (by decide)) (fun _ hk => hk.2) (.slice Ao35 t268.length co35)) (fun _ hk => hk.2) (.slice Ao40 t271.length co40)) (fun _ h_ => h_.1))) hb); replace HO258 := As.mk (Kd.S_below (by (with_reducible repeat (first | apply Kd.S_alloc | apply Kd.S_drewN | apply Kd.S_drew)); exact (Kd.S_mono (Kd.S_far (p := ⟨gb275, 1, none⟩) (Kd.S_far (p := ⟨gb275, 0, none⟩) (Kd.S_types HO258.out BK275.out (by decide)) (fun _ hk => hk.2) (.slice Ao35 t268.length co35)) (fun _ hk => hk.2) (.slice Ao40 t271.length co40)) (fun _ h_ => h_.1))) hb); replace HO263 := As.mk (Kd.S_below (by (with_reducible repeat (first | apply Kd.S_alloc | apply Kd.S_drewN | apply Kd.S_drew)); exact (Kd.S_mono (Kd.S_far (p := ⟨gb275, 1, none⟩) (Kd.S_far (p := ⟨gb275, 0, none⟩) (Kd.S_types HO263.out BK275.out (by decide)) (fun _ hk => hk.2) (.slice Ao35 t268.length co35)) (fun _ hk => hk.2) (.slice Ao40 t271.length co40)) (fun _ h_ => h_.1))) hb); replace HO266 := As.mk (Kd.S_below (by (with_reducible repeat (first | apply Kd.S_alloc | apply Kd.S_drewN | apply Kd.S_drew)); exact (Kd.S_mono (Kd.S_far (p := ⟨gb275, 1, none⟩) (Kd.S_far (p := ⟨gb275, 0, none⟩) (Kd.S_types HO266.out BK275.out (by decide)) (fun _ hk => hk.2) (.slice Ao35 t268.length co35)) (fun _ hk => hk.2) (.slice Ao40 t271.length co40)) (fun _ h_ => h_.1))) hb); replace HO270 := As.mk (Kd.S_below (by (with_reducible repeat (first | apply Kd.S_alloc | apply Kd.S_drewN | apply Kd.S_drew)); exact (Kd.S_mono (Kd.S_far (p := ⟨gb275, 1, none⟩) (Kd.S_far (p := ⟨gb275, 0, none⟩) (Kd.S_types HO270.out BK275.out (by decide)) (fun _ hk => hk.2) (.slice Ao35 t268.length co35)) (fun _ hk => hk.2) (.slice Ao40 t271.length co40)) (fun _ h_ => h_.1))) hb); replace HO273 := As.mk (Kd.S_below (by (with_reducible repeat (first | apply Kd.S_alloc | apply Kd.S_drewN | apply Kd.S_drew)); exact (Kd.S_mono (Kd.S_far (p := ⟨gb275, 1, none⟩) (Kd.S_far (p := ⟨gb275, 0, none⟩) (Kd.S_types HO273.out BK275.out (by decide)) (fun _ hk => hk.2) (.slice Ao35 t268.length co35)) (fun _ hk => hk.2) (.slice Ao40 t271.length co40)) (fun _ h_ => h_.1))) hb); replace BK245 := As.mk (blk_below (g := gb245) (o := .cells #[.slice A0_0 l0_0.length c0_0, .slice A0_1 l0_1.length c0_1] 25 (0, 0)) (by refine pl ?_; refine blk_far ?_ NB245_275.out _; refine pl ?_; refine blk_far ?_ NB245_275.out _; exact bx BK245.out) hb); replace BK260 := As.mk (blk_below (g := gb260) (o := .cells #[.slice Ao21 t253.length co21, .slice Ao24 t256.length co24] 30 (0, 0)) (by refine pl ?_; refine blk_far ?_ NB260_275.out _; refine pl ?_; refine blk_far ?_ NB260_275.out _; exact bx BK260.out) hb); replace BK267 := As.mk (blk_below (g := gb267) (o := .cells #[.slice Ao28 t261.length co28, .slice Ao32 t264.length co32] 30 (0, 0)) (by refine pl ?_; refine blk_far ?_ NB267_275.out _; refine pl ?_; refine blk_far ?_ NB267_275.out _; exact bx BK267.out) hb); replace BK275 := As.mk (blk_below (g := gb275) (o := .cells #[.slice Ao35 t268.length co35, .slice Ao40 t271.length co40] 30 (0, 0)) (by refine pl ?_; refine blk_put (cs := #[.slice Ao35 t268.length co35, .slice none 0 0]) ?_ 1 _ rfl; refine pl ?_; refine blk_put (cs := #[.slice none 0 0, .slice none 0 0]) ?_ 0 _ rfl; exact bx BK275.out) hb); replace HB := As.mk (below_step (be w) hb); (try clear hb); (try clear hb2); (try clear hk); (try clear hi)))
   go_meet
   case rel => exact ⟨_, ((t274 != t259)), (by first | rfl | (simp; done) | (simp [*]; done)), H', ⟨by first | omega | exact Nat.le_refl _⟩, ⟨by (with_reducible repeat (first | apply Kd.S_alloc | apply Kd.S_drewN | apply Kd.S_drew)); exact Kd.S_mono HO255.out (fun k_ hk => by (try dsimp only at hk ⊢); omega)⟩, ⟨by (with_reducible repeat (first | apply Kd.S_alloc | apply Kd.S_drewN | apply Kd.S_drew)); exact Kd.S_mono HO258.out (fun k_ hk => by (try dsimp only at hk ⊢); omega)⟩, ⟨by (with_reducible repeat (first | apply Kd.S_alloc | apply Kd.S_drewN | apply Kd.S_drew)); exact Kd.S_mono HO263.out (fun k_ hk => by (try dsimp only at hk ⊢); omega)⟩, ⟨by (with_reducible repeat (first | apply Kd.S_alloc | apply Kd.S_drewN | apply Kd.S_drew)); exact Kd.S_mono HO266.out (fun k_ hk => by (try dsimp only at hk ⊢); omega)⟩, ⟨by (with_reducible repeat (first | apply Kd.S_alloc | apply Kd.S_drewN | apply Kd.S_drew)); exact Kd.S_mono HO270.out (fun k_ hk => by (try dsimp only at hk ⊢); omega)⟩, ⟨by (with_reducible repeat (first | apply Kd.S_alloc | apply Kd.S_drewN | apply Kd.S_drew)); exact Kd.S_mono HO273.out (fun k_ hk => by (try dsimp only at hk ⊢); omega)⟩, ⟨bx BK245.out⟩, ⟨bx BK260.out⟩, ⟨bx BK267.out⟩, ⟨bx BK275.out⟩, ⟨be w⟩⟩
  replace c42 := Bool.eq_false_iff.mpr c42
  subst c42
  rw [if_neg (show ¬ (false = true) by decide)] at H
  have H' := As.mk H
  clear H
  have hnb51 := NB275_245.out
  have hnc51 := NB245_275.out
  have hnb52 := NB275_260.out
  have hnc52 := NB260_275.out
  have hnb53 := NB275_267.out
  have hnc53 := NB267_275.out
  obtain ⟨hcz54_0, hcz54_1, hfz54_0, hfz54_1⟩ := cl2 BK275.out
  have hnb55 := NB260_245.out
  have hnc55 := NB245_260.out
  have hnb56 := NB260_267.out
  have hnc56 := NB267_260.out
  obtain ⟨hcz57_0, hcz57_1, hfz57_0, hfz57_1⟩ := cl2 BK260.out
  go_wp2_with (first | ((with_reducible refine gate_callee (f := 8) rfl ?_); refine goesL_ (some 34) rfl rfl Try.func8 (by kernel_rfl) rfl #[.agg #[.slice Ao35 t268.length co35, .slice Ao40 t271.length co40], .agg #[.slice Ao21 t253.length co21, .slice Ao24 t256.length co24]] rfl (by (try simp only [lm]); first | done | rfl | (simp only [List.length_drop, List.length_take]; rfl)) ?_; (with_reducible refine (laws_eqProgram.calls k _ _ t268 _ _ t271 _ _ t253 _ _ t256 false _ ?side1 ?side2 ?side3 ?side4 ?side5 ?side6 ?side7 ?side8 A41.out).mono ?_); (case side1 => refine (Kd.S_reads' (e := 64) (base := w.heap.size) (ok := fun _ => True) (n := t268.length) (c := co35) ?_).2.2; exact (by (with_reducible repeat (first | apply Kd.S_alloc | apply Kd.S_drewN | apply Kd.S_drew)); exact (Kd.S_mono (Kd.S_far (p := ⟨gb275, 1, none⟩) (Kd.S_far (p := ⟨gb275, 0, none⟩) (Kd.S_types HO270.out BK275.out (by decide)) (fun _ hk => hk.2) (.slice Ao35 t268.length co35)) (fun _ hk => hk.2) (.slice Ao40 t271.length co40)) (fun _ _ => trivial)))); (case side2 => exact (Kd.S_reads' HO270.out).2.1); (case side3 => refine (Kd.S_reads' (e := 44) (base := w.heap.size) (ok := fun _ => True) (n := t271.length) (c := co40) ?_).2.2; exact (by (with_reducible repeat (first | apply Kd.S_alloc | apply Kd.S_drewN | apply Kd.S_drew)); exact (Kd.S_mono (Kd.S_far (p := ⟨gb275, 1, none⟩) (Kd.S_far (p := ⟨gb275, 0, none⟩) (Kd.S_types HO273.out BK275.out (by decide)) (fun _ hk => hk.2) (.slice Ao35 t268.length co35)) (fun _ hk => hk.2) (.slice Ao40 t271.length co40)) (fun _ _ => trivial)))); (case side4 => exact (Kd.S_reads' HO273.out).2.1); (case side5 => refine (Kd.S_reads' (e := 64) (base := w.heap.size) (ok := fun _ => True) (n := t253.length) (c := co21) ?_).2.2; exact (by (with_reducible repeat (first | apply Kd.S_alloc | apply Kd.S_drewN | apply Kd.S_drew)); exact (Kd.S_mono (Kd.S_far (p := ⟨gb275, 1, none⟩) (Kd.S_far (p := ⟨gb275, 0, none⟩) (Kd.S_types HO255.out BK275.out (by decide)) (fun _ hk => hk.2) (.slice Ao35 t268.length co35)) (fun _ hk => hk.2) (.slice Ao40 t271.length co40)) (fun _ _ => trivial)))); (case side6 => exact (Kd.S_reads' HO255.out).2.1); (case side7 => refine (Kd.S_reads' (e := 44) (base := w.heap.size) (ok := fun _ => True) (n := t256.length) (c := co24) ?_).2.2; exact (by (with_reducible repeat (first | apply Kd.S_alloc | apply Kd.S_drewN | apply Kd.S_drew)); exact (Kd.S_mono (Kd.S_far (p := ⟨gb275, 1, none⟩) (Kd.S_far (p := ⟨gb275, 0, none⟩) (Kd.S_types HO258.out BK275.out (by decide)) (fun _ hk => hk.2) (.slice Ao35 t268.length co35)) (fun _ hk => hk.2) (.slice Ao40 t271.length co40)) (fun _ _ => trivial)))); (case side8 => exact (Kd.S_reads' HO258.out).2.1); rintro e w58 ⟨rfl, hb⟩; refine ⟨_, rfl, ?_⟩; replace HO255 := As.mk (Kd.S_below (by (with_reducible repeat (first | apply Kd.S_alloc | apply Kd.S_drewN | apply Kd.S_drew)); exact (Kd.S_mono (Kd.S_far (p := ⟨gb275, 1, none⟩) (Kd.S_far (p := ⟨gb275, 0, none⟩) (Kd.S_types HO255.out BK275.out (by decide)) (fun _ hk => hk.2) (.slice Ao35 t268.length co35)) (fun _ hk => hk.2) (.slice Ao40 t271.length co40)) (fun _ h_ => h_.1))) hb); replace HO258 := As.mk (Kd.S_below (by (with_reducible repeat (first | apply Kd.S_alloc | apply Kd.S_drewN | apply Kd.S_drew)); exact (Kd.S_mono (Kd.S_far (p := ⟨gb275, 1, none⟩) (Kd.S_far (p := ⟨gb275, 0, none⟩) (Kd.S_types HO258.out BK275.out (by decide)) (fun _ hk => hk.2) (.slice Ao35 t268.length co35)) (fun _ hk => hk.2) (.slice Ao40 t271.length co40)) (fun _ h_ => h_.1))) hb); replace HO263 := As.mk (Kd.S_below (by (with_reducible repeat (first | apply Kd.S_alloc | apply Kd.S_drewN | apply Kd.S_drew)); exact (Kd.S_mono (Kd.S_far (p := ⟨gb275, 1, none⟩) (Kd.S_far (p := ⟨gb275, 0, none⟩) (Kd.S_types HO263.out BK275.out (by decide)) (fun _ hk => hk.2) (.slice Ao35 t268.length co35)) (fun _ hk => hk.2) (.slice Ao40 t271.length co40)) (fun _ h_ => h_.1))) hb); replace HO266 := As.mk (Kd.S_below (by (with_reducible repeat (first | apply Kd.S_alloc | apply Kd.S_drewN | apply Kd.S_drew)); exact (Kd.S_mono (Kd.S_far (p := ⟨gb275, 1, none⟩) (Kd.S_far (p := ⟨gb275, 0, none⟩) (Kd.S_types HO266.out BK275.out (by decide)) (fun _ hk => hk.2) (.slice Ao35 t268.length co35)) (fun _ hk => hk.2) (.slice Ao40 t271.length co40)) (fun _ h_ => h_.1))) hb); replace HO270 := As.mk (Kd.S_below (by (with_reducible repeat (first | apply Kd.S_alloc | apply Kd.S_drewN | apply Kd.S_drew)); exact (Kd.S_mono (Kd.S_far (p := ⟨gb275, 1, none⟩) (Kd.S_far (p := ⟨gb275, 0, none⟩) (Kd.S_types HO270.out BK275.out (by decide)) (fun _ hk => hk.2) (.slice Ao35 t268.length co35)) (fun _ hk => hk.2) (.slice Ao40 t271.length co40)) (fun _ h_ => h_.1))) hb); replace HO273 := As.mk (Kd.S_below (by (with_reducible repeat (first | apply Kd.S_alloc | apply Kd.S_drewN | apply Kd.S_drew)); exact (Kd.S_mono (Kd.S_far (p := ⟨gb275, 1, none⟩) (Kd.S_far (p := ⟨gb275, 0, none⟩) (Kd.S_types HO273.out BK275.out (by decide)) (fun _ hk => hk.2) (.slice Ao35 t268.length co35)) (fun _ hk => hk.2) (.slice Ao40 t271.length co40)) (fun _ h_ => h_.1))) hb); replace BK245 := As.mk (blk_below (g := gb245) (o := .cells #[.slice A0_0 l0_0.length c0_0, .slice A0_1 l0_1.length c0_1] 25 (0, 0)) (by refine pl ?_; refine blk_far ?_ NB245_275.out _; refine pl ?_; refine blk_far ?_ NB245_275.out _; exact bx BK245.out) hb); replace BK260 := As.mk (blk_below (g := gb260) (o := .cells #[.slice Ao21 t253.length co21, .slice Ao24 t256.length co24] 30 (0, 0)) (by refine pl ?_; refine blk_far ?_ NB260_275.out _; refine pl ?_; refine blk_far ?_ NB260_275.out _; exact bx BK260.out) hb); replace BK267 := As.mk (blk_below (g := gb267) (o := .cells #[.slice Ao28 t261.length co28, .slice Ao32 t264.length co32] 30 (0, 0)) (by refine pl ?_; refine blk_far ?_ NB267_275.out _; refine pl ?_; refine blk_far ?_ NB267_275.out _; exact bx BK267.out) hb); replace BK275 := As.mk (blk_below (g := gb275) (o := .cells #[.slice Ao35 t268.length co35, .slice Ao40 t271.length co40] 30 (0, 0)) (by refine pl ?_; refine blk_put (cs := #[.slice Ao35 t268.length co35, .slice none 0 0]) ?_ 1 _ rfl; refine pl ?_; refine blk_put (cs := #[.slice none 0 0, .slice none 0 0]) ?_ 0 _ rfl; exact bx BK275.out) hb); replace HB := As.mk (below_step (be w) hb); (try clear hb); (try clear hb2); (try clear hk); (try clear hi)))
  go_meet
  case rel => exact ⟨_, (true), (by first | rfl | (simp; done) | (simp [*]; done)), H', ⟨by first | omega | exact Nat.le_refl _⟩, ⟨by (with_reducible repeat (first | apply Kd.S_alloc | apply Kd.S_drewN | apply Kd.S_drew)); exact Kd.S_mono HO255.out (fun k_ hk => by (try dsimp only at hk ⊢); omega)⟩, ⟨by (with_reducible repeat (first | apply Kd.S_alloc | apply Kd.S_drewN | apply Kd.S_drew)); exact Kd.S_mono HO258.out (fun k_ hk => by (try dsimp only at hk ⊢); omega)⟩, ⟨by (with_reducible repeat (first | apply Kd.S_alloc | apply Kd.S_drewN | apply Kd.S_drew)); exact Kd.S_mono HO263.out (fun k_ hk => by (try dsimp only at hk ⊢); omega)⟩, ⟨by (with_reducible repeat (first | apply Kd.S_alloc | apply Kd.S_drewN | apply Kd.S_drew)); exact Kd.S_mono HO266.out (fun k_ hk => by (try dsimp only at hk ⊢); omega)⟩, ⟨by (with_reducible repeat (first | apply Kd.S_alloc | apply Kd.S_drewN | apply Kd.S_drew)); exact Kd.S_mono HO270.out (fun k_ hk => by (try dsimp only at hk ⊢); omega)⟩, ⟨by (with_reducible repeat (first | apply Kd.S_alloc | apply Kd.S_drewN | apply Kd.S_drew)); exact Kd.S_mono HO273.out (fun k_ hk => by (try dsimp only at hk ⊢); omega)⟩, ⟨bx BK245.out⟩, ⟨bx BK260.out⟩, ⟨bx BK267.out⟩, ⟨bx BK275.out⟩, ⟨be w⟩⟩
 case rest =>
  clear HC11
  (try clear c3); (try clear c3b0); (try clear hcz13_0); (try clear hcz13_1); (try clear hcz15_0); (try clear hcz15_1); (try clear hcz23_0); (try clear hcz23_1); (try clear hcz25_0); (try clear hcz25_1); (try clear hcz31_0); (try clear hcz31_1); (try clear hcz39_0); (try clear hcz39_1); (try clear hfz13_0); (try clear hfz13_1); (try clear hfz15_0); (try clear hfz15_1); (try clear hfz23_0); (try clear hfz23_1); (try clear hfz25_0); (try clear hfz25_1); (try clear hfz31_0); (try clear hfz31_1); (try clear hfz39_0); (try clear hfz39_1)
  obtain ⟨kq, x40_10, rfl, HA, HJ10, HO_261000, HO_261001, HO_268000, HO_268001, HO_276000, HO_276001, BK245, BK260, BK267, BK275, HB⟩ := hcut
  cases kq with
  | zero => exact absurd HA.out (by simp [laws_FnExactPacked.j0])
  | succ kj10 =>
   have H := HA.out
   clear HA
   simp only [laws_FnExactPacked.j0] at H
   by_cases c59 : x40_10 = true
   ·
    subst c59
    rw [if_pos rfl] at H
    exact absurd H (by rw [hrt.out]; simp)
   replace c59 := Bool.eq_false_iff.mpr c59
   subst c59
   rw [if_neg (show ¬ (false = true) by decide)] at H
   obtain ⟨⟨t277, t280⟩, A600, H⟩ := Option.bind_eq_some_iff.mp H
   try dsimp only at H
   have A60 := As.mk A600
   clear A600
   obtain ⟨t283, A610, H⟩ := Option.bind_eq_some_iff.mp H
   try dsimp only at H
   have A61 := As.mk A610
   clear A610
   by_cases c62 : t283 = true
   rotate_left
   ·
    replace c62 := Bool.eq_false_iff.mpr c62
    subst c62
    rw [if_neg (show ¬ (false = true) by decide)] at H
    exact absurd H (by rw [hrt.out]; simp)

   subst c62
   rw [if_pos rfl] at H
   obtain ⟨⟨t284, t285, t286⟩, A630, H⟩ := Option.bind_eq_some_iff.mp H
   try dsimp only at H
   have A63 := As.mk A630
   clear A630
   have HC64 := As.mk H
   clear H
   try go_wp2
   replace HO_261000 := As.mk (Kd.S_drew HO_261000.out)
   replace HO_261001 := As.mk (Kd.S_drew HO_261001.out)
   replace HO_268000 := As.mk (Kd.S_drew HO_268000.out)
   replace HO_268001 := As.mk (Kd.S_drew HO_268001.out)
   replace HO_276000 := As.mk (Kd.S_drew HO_276000.out)
   replace HO_276001 := As.mk (Kd.S_drew HO_276001.out)
   replace BK245 := As.mk (blk_drew BK245.out)
   replace BK260 := As.mk (blk_drew BK260.out)
   replace BK267 := As.mk (blk_drew BK267.out)
   replace BK275 := As.mk (blk_drew BK275.out)
   replace HB := As.mk (below_drew1 HB.out)
   refine start_ (n := 5) (S := fun w' => w'.cell? ⟨gb267, 0, none⟩ = some (.slice Ao28 t261.length co28) ∧ w'.cell? ⟨gb267, 1, none⟩ = some (.slice Ao32 t264.length co32) ∧ w'.cell? ⟨gb245, 0, none⟩ = some (.slice A0_0 l0_0.length c0_0) ∧ w'.cell? ⟨gb245, 1, none⟩ = some (.slice A0_1 l0_1.length c0_1)) (ds := []) #[O, O, O, O, O] (by kernel_rfl) rfl rfl ⟨(blk_cell BK267.out 0).trans rfl, (blk_cell BK267.out 1).trans rfl, (blk_cell BK245.out 0).trans rfl, (blk_cell BK245.out 1).trans rfl⟩ (fun hHeld => ?_)
   generalize wc.drew = w65 at HO_261000 HO_261001 HO_268000 HO_268001 HO_276000 HO_276001 BK245 BK260 BK267 BK275 HB hHeld ⊢
   refine take_ (i := 0) (N := some 41) (v := ?_) (a' := ?_) #[I, O, O, O, O] rfl rfl (by kernel_rfl) (fun _ _ _ h => h) (Or.inl ⟨by rfl, ?_⟩) hHeld ?_ ?_
   rotate_left; · rintro w' ⟨s0, s1, s2, s3⟩; go_simp; with_reducible rfl
   rotate_left; · simp only [pk, i64_w, i32_w]; rfl
   refine take_ (i := 1) (N := some 42) (v := ?_) (a' := ?_) #[I, I, O, O, O] rfl rfl (by kernel_rfl) (fun _ _ _ h => h) (Or.inl ⟨by rfl, ?_⟩) hHeld ?_ ?_
   rotate_left; · rintro w' ⟨s0, s1, s2, s3⟩; go_simp; with_reducible rfl
   rotate_left; · simp only [pk, i64_w, i32_w]; rfl
   refine one_ (i := 2) (N := some 43) #[I, I, I, O, O] rfl rfl (by kernel_rfl) (by decide) (fun K hK => ?_)
   refine goes_ Try.func6 (by kernel_rfl) rfl #[.agg #[.slice A0_0 l0_0.length c0_0, .slice A0_1 l0_1.length c0_1]] (by rfl) rfl rfl (by (try simp only [lm]); first | done | rfl | (simp only [List.length_drop, List.length_take]; rfl)) ?_
   with_reducible refine (laws_toProgram.calls kj10 _ _ l0_0 _ _ l0_1 t277 t280 _ ?side1 ?side2 ?side3 ?side4 A60.out).mono ?_
   (case side1 => exact Kd.C_below HR0_0.out (be w))
   (case side2 => exact HC0_0.out)
   (case side3 => exact Kd.C_below HR0_1.out (be w))
   (case side4 => exact HC0_1.out)
   rintro e w66 ⟨v278, v281, rfl, ho0, ho1, hb⟩
   refine ⟨_, rfl, ?_⟩
   have HO279 := As.mk (Kd.S_lower (sp_any ho0) (below_size (be w)))
   replace HO_261000 := As.mk (Kd.S_below (by (with_reducible repeat (first | apply Kd.S_alloc | apply Kd.S_drewN | apply Kd.S_drew)); exact HO_261000.out) hb)
   replace HO_268000 := As.mk (Kd.S_below (by (with_reducible repeat (first | apply Kd.S_alloc | apply Kd.S_drewN | apply Kd.S_drew)); exact HO_268000.out) hb)
   replace HO_276000 := As.mk (Kd.S_below (by (with_reducible repeat (first | apply Kd.S_alloc | apply Kd.S_drewN | apply Kd.S_drew)); exact HO_276000.out) hb)
   have HO282 := As.mk (Kd.S_lower (sp_any ho1) (below_size (be w)))
   replace HO_261001 := As.mk (Kd.S_below (by (with_reducible repeat (first | apply Kd.S_alloc | apply Kd.S_drewN | apply Kd.S_drew)); exact HO_261001.out) hb)
   replace HO_268001 := As.mk (Kd.S_below (by (with_reducible repeat (first | apply Kd.S_alloc | apply Kd.S_drewN | apply Kd.S_drew)); exact HO_268001.out) hb)
   replace HO_276001 := As.mk (Kd.S_below (by (with_reducible repeat (first | apply Kd.S_alloc | apply Kd.S_drewN | apply Kd.S_drew)); exact HO_276001.out) hb)
   replace BK245 := As.mk (blk_below (bx BK245.out) hb)
   replace BK260 := As.mk (blk_below (bx BK260.out) hb)
   replace BK267 := As.mk (blk_below (bx BK267.out) hb)
   replace BK275 := As.mk (blk_below (bx BK275.out) hb)
   replace HB := As.mk (below_step (be w) hb)
   (try clear hb)
   (try clear hb2)
   (try clear hk)
   (try clear hi)
   (try clear ho0)
   (try clear ho1)
   obtain ⟨Ao67, co67, eo67⟩ := Kd.S_slice HO279.out
   (first | subst eo67 | (injection eo67 with f1_ f2_ f3_; have f4_ := f1_.symm; have f5_ := f3_.symm; clear f1_ f2_ f3_; subst f4_; subst f5_))
   obtain ⟨Ao68, co68, eo68⟩ := Kd.S_slice HO282.out
   (first | subst eo68 | (injection eo68 with f1_ f2_ f3_; have f4_ := f1_.symm; have f5_ := f3_.symm; clear f1_ f2_ f3_; subst f4_; subst f5_))
   refine hK.out _ _ ⟨(blk_cell BK267.out 0).trans rfl, (blk_cell BK267.out 1).trans rfl, (blk_cell BK245.out 0).trans rfl, (blk_cell BK245.out 1).trans rfl⟩ (fun hHeld => ?_)
   clear hK K
   refine norm_ (a' := ?_) ?_ ?_
   rotate_left
   ·
    show Act.put _ (some 43) _ = _
    simp only [pk, i64_w, i32_w]
    rfl
   refine one_ (i := 3) (N := some 44) #[I, I, I, I, O] rfl rfl (by kernel_rfl) (by decide) (fun K hK => ?_)
   refine goes_ Try.func8 (by kernel_rfl) rfl #[.agg #[.slice Ao28 t261.length co28, .slice Ao32 t264.length co32], .agg #[.slice Ao67 t277.length co67, .slice Ao68 t280.length co68]] (by rfl) rfl rfl (by (try simp only [lm]); first | done | rfl | (simp only [List.length_drop, List.length_take]; rfl)) ?_
   with_reducible refine (laws_eqProgram.calls kj10 _ _ t261 _ _ t264 _ _ t277 _ _ t280 true _ ?side1 ?side2 ?side3 ?side4 ?side5 ?side6 ?side7 ?side8 A61.out).mono ?_
   (case side1 => repeat (first | exact (Kd.S_reads' HO_268000.out).2.2 | (with_reducible refine Kd.C_alloc ?_ _) | (with_reducible refine Kd.C_drewN ?_ _) | (with_reducible refine Kd.C_drew ?_)))
   (case side2 => exact (Kd.S_reads' HO_268000.out).2.1)
   (case side3 => repeat (first | exact (Kd.S_reads' HO_268001.out).2.2 | (with_reducible refine Kd.C_alloc ?_ _) | (with_reducible refine Kd.C_drewN ?_ _) | (with_reducible refine Kd.C_drew ?_)))
   (case side4 => exact (Kd.S_reads' HO_268001.out).2.1)
   (case side5 => repeat (first | exact (Kd.S_reads' HO279.out).2.2 | (with_reducible refine Kd.C_alloc ?_ _) | (with_reducible refine Kd.C_drewN ?_ _) | (with_reducible refine Kd.C_drew ?_)))
   (case side6 => exact (Kd.S_reads' HO279.out).2.1)
   (case side7 => repeat (first | exact (Kd.S_reads' HO282.out).2.2 | (with_reducible refine Kd.C_alloc ?_ _) | (with_reducible refine Kd.C_drewN ?_ _) | (with_reducible refine Kd.C_drew ?_)))
   (case side8 => exact (Kd.S_reads' HO282.out).2.1)
   rintro e w69 ⟨rfl, hb⟩
   refine ⟨_, rfl, ?_⟩
   replace HO_261000 := As.mk (Kd.S_below (by (with_reducible repeat (first | apply Kd.S_alloc | apply Kd.S_drewN | apply Kd.S_drew)); exact HO_261000.out) hb)
   replace HO_261001 := As.mk (Kd.S_below (by (with_reducible repeat (first | apply Kd.S_alloc | apply Kd.S_drewN | apply Kd.S_drew)); exact HO_261001.out) hb)
   replace HO_268000 := As.mk (Kd.S_below (by (with_reducible repeat (first | apply Kd.S_alloc | apply Kd.S_drewN | apply Kd.S_drew)); exact HO_268000.out) hb)
   replace HO_268001 := As.mk (Kd.S_below (by (with_reducible repeat (first | apply Kd.S_alloc | apply Kd.S_drewN | apply Kd.S_drew)); exact HO_268001.out) hb)
   replace HO_276000 := As.mk (Kd.S_below (by (with_reducible repeat (first | apply Kd.S_alloc | apply Kd.S_drewN | apply Kd.S_drew)); exact HO_276000.out) hb)
   replace HO_276001 := As.mk (Kd.S_below (by (with_reducible repeat (first | apply Kd.S_alloc | apply Kd.S_drewN | apply Kd.S_drew)); exact HO_276001.out) hb)
   replace HO279 := As.mk (Kd.S_below (by (with_reducible repeat (first | apply Kd.S_alloc | apply Kd.S_drewN | apply Kd.S_drew)); exact HO279.out) hb)
   replace HO282 := As.mk (Kd.S_below (by (with_reducible repeat (first | apply Kd.S_alloc | apply Kd.S_drewN | apply Kd.S_drew)); exact HO282.out) hb)
   replace BK245 := As.mk (blk_below (bx BK245.out) hb)
   replace BK260 := As.mk (blk_below (bx BK260.out) hb)
   replace BK267 := As.mk (blk_below (bx BK267.out) hb)
   replace BK275 := As.mk (blk_below (bx BK275.out) hb)
   replace HB := As.mk (below_step (be w) hb)
   (try clear hb)
   (try clear hb2)
   (try clear hk)
   (try clear hi)
   refine hK.out _ _ ⟨(blk_cell BK267.out 0).trans rfl, (blk_cell BK267.out 1).trans rfl, (blk_cell BK245.out 0).trans rfl, (blk_cell BK245.out 1).trans rfl⟩ (fun hHeld => ?_)
   clear hK K
   refine norm_ (a' := ?_) ?_ ?_
   rotate_left
   ·
    show Act.put _ (some 44) _ = _
    simp only [pk, i64_w, i32_w]
    rfl
   refine pure_ (i := 4) (N := some 45) (v := ?_) (a' := ?_) #[I, I, I, I, I] rfl rfl (by kernel_rfl) (fun _ _ _ h => h) (Or.inl ⟨by rfl, ?_⟩) ?_ ?_
   rotate_left; · intro w'; go_simp; with_reducible rfl
   rotate_left; · simp only [pk, i64_w, i32_w]; rfl
   refine done_ (by kernel_rfl) ?_
   have hnb70 := NB267_245.out
   have hnc70 := NB245_267.out
   have hnb71 := NB267_260.out
   have hnc71 := NB260_267.out
   have hnb72 := NB267_275.out
   have hnc72 := NB275_267.out
   obtain ⟨hcz73_0, hcz73_1, hfz73_0, hfz73_1⟩ := cl2 BK267.out
   go_upto_region 14 with (first | ((with_reducible refine gate_callee (f := 9) rfl ?_); refine goesL_ (some 48) rfl rfl Try.func9 (by kernel_rfl) rfl #[.agg #[.slice Ao28 t261.length co28, .slice Ao32 t264.length co32], .int .i64 1] rfl (by (try simp only [lm]); first | done | rfl | (simp only [List.length_drop, List.length_take]; rfl)) ?_; (with_reducible refine (laws_markProgram.calls _ (.slice Ao28 t261.length co28) t261 _ (.slice Ao32 t264.length co32) t264 1 t284 t285 t286 w _ ?side1 (Kd.S_bound HO_268000.out) (Kd.S_bound HO_268001.out) A63.out).mono ?_); (case side1 => repeat (first | (with_reducible first | exact HB.out | apply below_alloc | apply pw_below_drewN | apply below_drew1 | refine below_set ?_ GE245.out | refine below_set ?_ GE260.out | refine below_set ?_ GE267.out | refine below_set ?_ GE275.out) | exact HB.out)); rintro e w74 ⟨rfl, hy0, hy1, hb, hkp⟩; refine ⟨_, rfl, ?_⟩; replace HO_261000 := As.mk (Kd.S_kept HO_261000.out hkp (fun k_ hk_ hs_ => by rcases hs_ with hs_ | hs_ <;> (have h1_ := hs_.1; (try dsimp only at hk_ h1_); omega))); replace HO_261001 := As.mk (Kd.S_kept HO_261001.out hkp (fun k_ hk_ hs_ => by rcases hs_ with hs_ | hs_ <;> (have h1_ := hs_.1; (try dsimp only at hk_ h1_); omega))); replace HO_276000 := As.mk (Kd.S_kept HO_276000.out hkp (fun k_ hk_ hs_ => by rcases hs_ with hs_ | hs_ <;> (have h1_ := hs_.1; (try dsimp only at hk_ h1_); omega))); replace HO_276001 := As.mk (Kd.S_kept HO_276001.out hkp (fun k_ hk_ hs_ => by rcases hs_ with hs_ | hs_ <;> (have h1_ := hs_.1; (try dsimp only at hk_ h1_); omega))); replace BK245 := As.mk (blk_kept (bx BK245.out) hkp (fun hs_ => Or.elim hs_ (fun e_ => mkk_tyb e_ (bx BK245.out) (by decide)) (fun e_ => mkk_tyb e_ (bx BK245.out) (by decide)))); replace BK260 := As.mk (blk_kept (bx BK260.out) hkp (fun hs_ => Or.elim hs_ (fun e_ => mkk_tyb e_ (bx BK260.out) (by decide)) (fun e_ => mkk_tyb e_ (bx BK260.out) (by decide)))); replace BK267 := As.mk (blk_kept (bx BK267.out) hkp (fun hs_ => Or.elim hs_ (fun e_ => mkk_tyb e_ (bx BK267.out) (by decide)) (fun e_ => mkk_tyb e_ (bx BK267.out) (by decide)))); replace BK275 := As.mk (blk_kept (bx BK275.out) hkp (fun hs_ => Or.elim hs_ (fun e_ => mkk_tyb e_ (bx BK275.out) (by decide)) (fun e_ => mkk_tyb e_ (bx BK275.out) (by decide)))); replace HO_268000 := As.mk (Kd.S_mono hy0 (fun _ h_ => h_.1)); replace HO_268001 := As.mk (Kd.S_mono hy1 (fun _ h_ => h_.1)); replace HB := As.mk (hb); (try clear hb); (try clear hkp); (try clear hy0); (try clear hy1)))
   (try simp only [pk])
   go_cut [61] (fun v61 wc => ∃ (kq : Nat) (x61_63 : Bool), v61 = .bool x61_63 ∧ As (laws_FnExactPacked.j1 kq t259 x61_63 l0_0 l0_1 t253 t256 t268 t271 = some r) ∧ As (kq ≤ kj10) ∧ As (Kd.S k64 64 wc w.heap.size (fun k_ => k_ < n1 ∧ k_ < n2) (.slice Ao21 t253.length co21) t253) ∧ As (Kd.S k44 44 wc w.heap.size (fun k_ => k_ < n1 ∧ k_ < n2) (.slice Ao24 t256.length co24) t256) ∧ As (Kd.S k64 64 wc w.heap.size (fun k_ => n1 ≤ k_ ∧ k_ < n2) (.slice Ao28 t261.length co28) t285) ∧ As (Kd.S k44 44 wc w.heap.size (fun k_ => n1 ≤ k_ ∧ k_ < n2) (.slice Ao32 t264.length co32) t286) ∧ As (Kd.S k64 64 wc w.heap.size (fun k_ => n2 ≤ k_) (.slice Ao35 t268.length co35) t268) ∧ As (Kd.S k44 44 wc w.heap.size (fun k_ => n2 ≤ k_) (.slice Ao40 t271.length co40) t271) ∧ As (wc.heap[gb245]? = some (.cells #[(.slice A0_0 l0_0.length c0_0), (.slice A0_1 l0_1.length c0_1)] 25 (0, 0))) ∧ As (wc.heap[gb260]? = some (.cells #[(.slice Ao21 t253.length co21), (.slice Ao24 t256.length co24)] 30 (0, 0))) ∧ As (wc.heap[gb267]? = some (.cells #[(.slice Ao28 t261.length co28), (.slice Ao32 t264.length co32)] 30 (0, 0))) ∧ As (wc.heap[gb275]? = some (.cells #[(.slice Ao35 t268.length co35), (.slice Ao40 t271.length co40)] 30 (0, 0))) ∧ As (Below w.heap.size w wc))
   case first =>
    have H := HC64.out
    clear HC64
    by_cases c75 : t284 < 0
    ·
     rw [if_pos c75] at H
     have c75b0 : decide (t284 < 0) = true := decide_eq_true c75
     clear c75
     (first | rw [c75b0] | (simp only [i64_w, i32_w]; rw [c75b0]) | skip)
     have H' := As.mk H
     clear H
     go_wp2
     go_meet
     case rel => exact ⟨_, (true), (by first | rfl | (simp; done) | (simp [*]; done)), H', ⟨by have := HJ10.out; first | omega | exact Nat.le_refl _⟩, ⟨by (with_reducible repeat (first | apply Kd.S_alloc | apply Kd.S_drewN | apply Kd.S_drew)); exact Kd.S_mono HO_261000.out (fun k_ hk => by (try dsimp only at hk ⊢); omega)⟩, ⟨by (with_reducible repeat (first | apply Kd.S_alloc | apply Kd.S_drewN | apply Kd.S_drew)); exact Kd.S_mono HO_261001.out (fun k_ hk => by (try dsimp only at hk ⊢); omega)⟩, ⟨by (with_reducible repeat (first | apply Kd.S_alloc | apply Kd.S_drewN | apply Kd.S_drew)); exact Kd.S_mono HO_268000.out (fun k_ hk => by (try dsimp only at hk ⊢); omega)⟩, ⟨by (with_reducible repeat (first | apply Kd.S_alloc | apply Kd.S_drewN | apply Kd.S_drew)); exact Kd.S_mono HO_268001.out (fun k_ hk => by (try dsimp only at hk ⊢); omega)⟩, ⟨by (with_reducible repeat (first | apply Kd.S_alloc | apply Kd.S_drewN | apply Kd.S_drew)); exact Kd.S_mono HO_276000.out (fun k_ hk => by (try dsimp only at hk ⊢); omega)⟩, ⟨by (with_reducible repeat (first | apply Kd.S_alloc | apply Kd.S_drewN | apply Kd.S_drew)); exact Kd.S_mono HO_276001.out (fun k_ hk => by (try dsimp only at hk ⊢); omega)⟩, ⟨bx BK245.out⟩, ⟨bx BK260.out⟩, ⟨bx BK267.out⟩, ⟨bx BK275.out⟩, ⟨be w⟩⟩
    rw [if_neg c75] at H
    have c75b0 : decide (t284 < 0) = false := decide_eq_false c75
    clear c75
    (first | rw [c75b0] | (simp only [i64_w, i32_w]; rw [c75b0]) | skip)
    obtain ⟨t287, A760, H⟩ := Option.bind_eq_some_iff.mp H
    try dsimp only at H
    have A76 := As.mk A760
    clear A760
    by_cases c77 : t287 = true
    ·
     subst c77
     rw [if_pos rfl] at H
     have H' := As.mk H
     clear H
     have hnb78 := NB275_245.out
     have hnc78 := NB245_275.out
     have hnb79 := NB275_260.out
     have hnc79 := NB260_275.out
     have hnb80 := NB275_267.out
     have hnc80 := NB267_275.out
     obtain ⟨hcz81_0, hcz81_1, hfz81_0, hfz81_1⟩ := cl2 BK275.out
     have hnb82 := NB260_245.out
     have hnc82 := NB245_260.out
     have hnb83 := NB260_267.out
     have hnc83 := NB267_260.out
     obtain ⟨hcz84_0, hcz84_1, hfz84_0, hfz84_1⟩ := cl2 BK260.out
     go_wp2_with (first | (go_at_call 8; (with_reducible refine (laws_eqProgram.calls kj10 _ _ t268 _ _ t271 _ _ t253 _ _ t256 true _ ?side1 ?side2 ?side3 ?side4 ?side5 ?side6 ?side7 ?side8 A76.out).mono ?_); (case side1 => repeat (first | exact (Kd.S_reads' HO_276000.out).2.2 | (with_reducible refine Kd.C_alloc ?_ _) | (with_reducible refine Kd.C_drewN ?_ _) | (with_reducible refine Kd.C_drew ?_))); (case side2 => exact (Kd.S_reads' HO_276000.out).2.1); (case side3 => repeat (first | exact (Kd.S_reads' HO_276001.out).2.2 | (with_reducible refine Kd.C_alloc ?_ _) | (with_reducible refine Kd.C_drewN ?_ _) | (with_reducible refine Kd.C_drew ?_))); (case side4 => exact (Kd.S_reads' HO_276001.out).2.1); (case side5 => repeat (first | exact (Kd.S_reads' HO_261000.out).2.2 | (with_reducible refine Kd.C_alloc ?_ _) | (with_reducible refine Kd.C_drewN ?_ _) | (with_reducible refine Kd.C_drew ?_))); (case side6 => exact (Kd.S_reads' HO_261000.out).2.1); (case side7 => repeat (first | exact (Kd.S_reads' HO_261001.out).2.2 | (with_reducible refine Kd.C_alloc ?_ _) | (with_reducible refine Kd.C_drewN ?_ _) | (with_reducible refine Kd.C_drew ?_))); (case side8 => exact (Kd.S_reads' HO_261001.out).2.1); rintro e w85 ⟨rfl, hb⟩; replace HO_261000 := As.mk (Kd.S_below (by (with_reducible repeat (first | apply Kd.S_alloc | apply Kd.S_drewN | apply Kd.S_drew)); exact HO_261000.out) hb); replace HO_261001 := As.mk (Kd.S_below (by (with_reducible repeat (first | apply Kd.S_alloc | apply Kd.S_drewN | apply Kd.S_drew)); exact HO_261001.out) hb); replace HO_268000 := As.mk (Kd.S_below (by (with_reducible repeat (first | apply Kd.S_alloc | apply Kd.S_drewN | apply Kd.S_drew)); exact HO_268000.out) hb); replace HO_268001 := As.mk (Kd.S_below (by (with_reducible repeat (first | apply Kd.S_alloc | apply Kd.S_drewN | apply Kd.S_drew)); exact HO_268001.out) hb); replace HO_276000 := As.mk (Kd.S_below (by (with_reducible repeat (first | apply Kd.S_alloc | apply Kd.S_drewN | apply Kd.S_drew)); exact HO_276000.out) hb); replace HO_276001 := As.mk (Kd.S_below (by (with_reducible repeat (first | apply Kd.S_alloc | apply Kd.S_drewN | apply Kd.S_drew)); exact HO_276001.out) hb); replace BK245 := As.mk (blk_below (bx BK245.out) hb); replace BK260 := As.mk (blk_below (bx BK260.out) hb); replace BK267 := As.mk (blk_below (bx BK267.out) hb); replace BK275 := As.mk (blk_below (bx BK275.out) hb); replace HB := As.mk (below_step (be w) hb); (try clear hb); (try clear hb2); (try clear hk); (try clear hi)))
     go_meet
     case rel => exact ⟨_, ((t274 != t259)), (by first | rfl | (simp; done) | (simp [*]; done)), H', ⟨by have := HJ10.out; first | omega | exact Nat.le_refl _⟩, ⟨by (with_reducible repeat (first | apply Kd.S_alloc | apply Kd.S_drewN | apply Kd.S_drew)); exact Kd.S_mono HO_261000.out (fun k_ hk => by (try dsimp only at hk ⊢); omega)⟩, ⟨by (with_reducible repeat (first | apply Kd.S_alloc | apply Kd.S_drewN | apply Kd.S_drew)); exact Kd.S_mono HO_261001.out (fun k_ hk => by (try dsimp only at hk ⊢); omega)⟩, ⟨by (with_reducible repeat (first | apply Kd.S_alloc | apply Kd.S_drewN | apply Kd.S_drew)); exact Kd.S_mono HO_268000.out (fun k_ hk => by (try dsimp only at hk ⊢); omega)⟩, ⟨by (with_reducible repeat (first | apply Kd.S_alloc | apply Kd.S_drewN | apply Kd.S_drew)); exact Kd.S_mono HO_268001.out (fun k_ hk => by (try dsimp only at hk ⊢); omega)⟩, ⟨by (with_reducible repeat (first | apply Kd.S_alloc | apply Kd.S_drewN | apply Kd.S_drew)); exact Kd.S_mono HO_276000.out (fun k_ hk => by (try dsimp only at hk ⊢); omega)⟩, ⟨by (with_reducible repeat (first | apply Kd.S_alloc | apply Kd.S_drewN | apply Kd.S_drew)); exact Kd.S_mono HO_276001.out (fun k_ hk => by (try dsimp only at hk ⊢); omega)⟩, ⟨bx BK245.out⟩, ⟨bx BK260.out⟩, ⟨bx BK267.out⟩, ⟨bx BK275.out⟩, ⟨be w⟩⟩
    replace c77 := Bool.eq_false_iff.mpr c77
    subst c77
    rw [if_neg (show ¬ (false = true) by decide)] at H
    have H' := As.mk H
    clear H
    have hnb86 := NB275_245.out
    have hnc86 := NB245_275.out
    have hnb87 := NB275_260.out
    have hnc87 := NB260_275.out
    have hnb88 := NB275_267.out
    have hnc88 := NB267_275.out
    obtain ⟨hcz89_0, hcz89_1, hfz89_0, hfz89_1⟩ := cl2 BK275.out
    have hnb90 := NB260_245.out
    have hnc90 := NB245_260.out
    have hnb91 := NB260_267.out
    have hnc91 := NB267_260.out
    obtain ⟨hcz92_0, hcz92_1, hfz92_0, hfz92_1⟩ := cl2 BK260.out
    go_wp2_with (first | (go_at_call 8; (with_reducible refine (laws_eqProgram.calls kj10 _ _ t268 _ _ t271 _ _ t253 _ _ t256 false _ ?side1 ?side2 ?side3 ?side4 ?side5 ?side6 ?side7 ?side8 A76.out).mono ?_); (case side1 => repeat (first | exact (Kd.S_reads' HO_276000.out).2.2 | (with_reducible refine Kd.C_alloc ?_ _) | (with_reducible refine Kd.C_drewN ?_ _) | (with_reducible refine Kd.C_drew ?_))); (case side2 => exact (Kd.S_reads' HO_276000.out).2.1); (case side3 => repeat (first | exact (Kd.S_reads' HO_276001.out).2.2 | (with_reducible refine Kd.C_alloc ?_ _) | (with_reducible refine Kd.C_drewN ?_ _) | (with_reducible refine Kd.C_drew ?_))); (case side4 => exact (Kd.S_reads' HO_276001.out).2.1); (case side5 => repeat (first | exact (Kd.S_reads' HO_261000.out).2.2 | (with_reducible refine Kd.C_alloc ?_ _) | (with_reducible refine Kd.C_drewN ?_ _) | (with_reducible refine Kd.C_drew ?_))); (case side6 => exact (Kd.S_reads' HO_261000.out).2.1); (case side7 => repeat (first | exact (Kd.S_reads' HO_261001.out).2.2 | (with_reducible refine Kd.C_alloc ?_ _) | (with_reducible refine Kd.C_drewN ?_ _) | (with_reducible refine Kd.C_drew ?_))); (case side8 => exact (Kd.S_reads' HO_261001.out).2.1); rintro e w93 ⟨rfl, hb⟩; replace HO_261000 := As.mk (Kd.S_below (by (with_reducible repeat (first | apply Kd.S_alloc | apply Kd.S_drewN | apply Kd.S_drew)); exact HO_261000.out) hb); replace HO_261001 := As.mk (Kd.S_below (by (with_reducible repeat (first | apply Kd.S_alloc | apply Kd.S_drewN | apply Kd.S_drew)); exact HO_261001.out) hb); replace HO_268000 := As.mk (Kd.S_below (by (with_reducible repeat (first | apply Kd.S_alloc | apply Kd.S_drewN | apply Kd.S_drew)); exact HO_268000.out) hb); replace HO_268001 := As.mk (Kd.S_below (by (with_reducible repeat (first | apply Kd.S_alloc | apply Kd.S_drewN | apply Kd.S_drew)); exact HO_268001.out) hb); replace HO_276000 := As.mk (Kd.S_below (by (with_reducible repeat (first | apply Kd.S_alloc | apply Kd.S_drewN | apply Kd.S_drew)); exact HO_276000.out) hb); replace HO_276001 := As.mk (Kd.S_below (by (with_reducible repeat (first | apply Kd.S_alloc | apply Kd.S_drewN | apply Kd.S_drew)); exact HO_276001.out) hb); replace BK245 := As.mk (blk_below (bx BK245.out) hb); replace BK260 := As.mk (blk_below (bx BK260.out) hb); replace BK267 := As.mk (blk_below (bx BK267.out) hb); replace BK275 := As.mk (blk_below (bx BK275.out) hb); replace HB := As.mk (below_step (be w) hb); (try clear hb); (try clear hb2); (try clear hk); (try clear hi)))
    go_meet
    case rel => exact ⟨_, (true), (by first | rfl | (simp; done) | (simp [*]; done)), H', ⟨by have := HJ10.out; first | omega | exact Nat.le_refl _⟩, ⟨by (with_reducible repeat (first | apply Kd.S_alloc | apply Kd.S_drewN | apply Kd.S_drew)); exact Kd.S_mono HO_261000.out (fun k_ hk => by (try dsimp only at hk ⊢); omega)⟩, ⟨by (with_reducible repeat (first | apply Kd.S_alloc | apply Kd.S_drewN | apply Kd.S_drew)); exact Kd.S_mono HO_261001.out (fun k_ hk => by (try dsimp only at hk ⊢); omega)⟩, ⟨by (with_reducible repeat (first | apply Kd.S_alloc | apply Kd.S_drewN | apply Kd.S_drew)); exact Kd.S_mono HO_268000.out (fun k_ hk => by (try dsimp only at hk ⊢); omega)⟩, ⟨by (with_reducible repeat (first | apply Kd.S_alloc | apply Kd.S_drewN | apply Kd.S_drew)); exact Kd.S_mono HO_268001.out (fun k_ hk => by (try dsimp only at hk ⊢); omega)⟩, ⟨by (with_reducible repeat (first | apply Kd.S_alloc | apply Kd.S_drewN | apply Kd.S_drew)); exact Kd.S_mono HO_276000.out (fun k_ hk => by (try dsimp only at hk ⊢); omega)⟩, ⟨by (with_reducible repeat (first | apply Kd.S_alloc | apply Kd.S_drewN | apply Kd.S_drew)); exact Kd.S_mono HO_276001.out (fun k_ hk => by (try dsimp only at hk ⊢); omega)⟩, ⟨bx BK245.out⟩, ⟨bx BK260.out⟩, ⟨bx BK267.out⟩, ⟨bx BK275.out⟩, ⟨be w⟩⟩
   case rest =>
    clear HC64
    (try clear c3); (try clear c3b0); (try clear c59); (try clear c62); (try clear hcz13_0); (try clear hcz13_1); (try clear hcz15_0); (try clear hcz15_1); (try clear hcz23_0); (try clear hcz23_1); (try clear hcz25_0); (try clear hcz25_1); (try clear hcz31_0); (try clear hcz31_1); (try clear hcz39_0); (try clear hcz39_1); (try clear hcz73_0); (try clear hcz73_1); (try clear hfz13_0); (try clear hfz13_1); (try clear hfz15_0); (try clear hfz15_1); (try clear hfz23_0); (try clear hfz23_1); (try clear hfz25_0); (try clear hfz25_1); (try clear hfz31_0); (try clear hfz31_1); (try clear hfz39_0); (try clear hfz39_1); (try clear hfz73_0); (try clear hfz73_1)
    obtain ⟨kq, x61_63, rfl, HA, HJ63, HO_261000, HO_261001, HO_268000, HO_268001, HO_276000, HO_276001, BK245, BK260, BK267, BK275, HB⟩ := hcut
    have hl268000_63 := (Kd.S_reads' HO_268000.out).1
    rw [hl268000_63] at HO_268000
    (try simp only [hl268000_63])
    (try simp only [hl268000_63] at BK245)
    (try simp only [hl268000_63] at BK260)
    (try simp only [hl268000_63] at BK267)
    (try simp only [hl268000_63] at BK275)
    (try simp only [hl268000_63] at HO_261000)
    (try simp only [hl268000_63] at HO_261001)
    (try simp only [hl268000_63] at HO_268001)
    (try simp only [hl268000_63] at HO_276000)
    (try simp only [hl268000_63] at HO_276001)
    have hl268001_63 := (Kd.S_reads' HO_268001.out).1
    rw [hl268001_63] at HO_268001
    (try simp only [hl268001_63])
    (try simp only [hl268001_63] at BK245)
    (try simp only [hl268001_63] at BK260)
    (try simp only [hl268001_63] at BK267)
    (try simp only [hl268001_63] at BK275)
    (try simp only [hl268001_63] at HO_261000)
    (try simp only [hl268001_63] at HO_261001)
    (try simp only [hl268001_63] at HO_268000)
    (try simp only [hl268001_63] at HO_276000)
    (try simp only [hl268001_63] at HO_276001)
    cases kq with
    | zero => exact absurd HA.out (by simp [laws_FnExactPacked.j1])
    | succ kj63 =>
     have H := HA.out
     clear HA
     simp only [laws_FnExactPacked.j1] at H
     by_cases c94 : x61_63 = true
     ·
      subst c94
      rw [if_pos rfl] at H
      exact absurd H (by rw [hrt.out]; simp)
     replace c94 := Bool.eq_false_iff.mpr c94
     subst c94
     rw [if_neg (show ¬ (false = true) by decide)] at H
     obtain ⟨⟨t288, t289, t290⟩, A950, H⟩ := Option.bind_eq_some_iff.mp H
     try dsimp only at H
     have A95 := As.mk A950
     clear A950
     obtain ⟨t291, A960, H⟩ := Option.bind_eq_some_iff.mp H
     try dsimp only at H
     have A96 := As.mk A960
     clear A960
     by_cases c97 : t291 < 0
     ·
      rw [if_pos c97] at H
      have c97b0 : decide (t291 < 0) = true := decide_eq_true c97
      clear c97
      exact absurd H (by rw [hrt.out]; simp)
     rw [if_neg c97] at H
     have c97b0 : decide (t291 < 0) = false := decide_eq_false c97
     clear c97
     by_cases c98 : t291 = t288
     rotate_left
     ·
      rw [if_neg c98] at H
      have c98b0 : (t291 == t288) = false := beq_eq_false_iff_ne.mpr c98
      have c98b1 : (t291 != t288) = true := bne_iff_ne.mpr c98
      exact absurd H (by rw [hrt.out]; simp)
     rw [if_pos c98] at H
     have c98b0 : (t291 == t288) = true := beq_iff_eq.mpr c98
     have c98b1 : (t291 != t288) = false := bne_eq_false_iff_eq.mpr c98
     clear c98
     obtain ⟨⟨t292, t295⟩, A990, H⟩ := Option.bind_eq_some_iff.mp H
     try dsimp only at H
     have A99 := As.mk A990
     clear A990
     obtain ⟨⟨t298, t301, t304⟩, A1000, H⟩ := Option.bind_eq_some_iff.mp H
     try dsimp only at H
     have A100 := As.mk A1000
     clear A1000
     have HC101 := As.mk H
     clear H
     have hnb102 := NB275_245.out
     have hnc102 := NB245_275.out
     have hnb103 := NB275_260.out
     have hnc103 := NB260_275.out
     have hnb104 := NB275_267.out
     have hnc104 := NB267_275.out
     obtain ⟨hcz105_0, hcz105_1, hfz105_0, hfz105_1⟩ := cl2 BK275.out
     go_upto_region 25 with (first | ((with_reducible refine gate_callee (f := 9) rfl ?_); refine goesL_ (some 64) rfl rfl Try.func9 (by kernel_rfl) rfl #[.agg #[.slice Ao35 t268.length co35, .slice Ao40 t271.length co40], .int .i64 1] rfl (by (try simp only [lm]); first | done | rfl | (simp only [List.length_drop, List.length_take]; rfl)) ?_; (with_reducible refine (laws_markProgram.calls _ (.slice Ao35 t268.length co35) t268 _ (.slice Ao40 t271.length co40) t271 1 t288 t289 t290 w _ ?side1 (Kd.S_bound HO_276000.out) (Kd.S_bound HO_276001.out) A95.out).mono ?_); (case side1 => repeat (first | (with_reducible first | exact HB.out | apply below_alloc | apply pw_below_drewN | apply below_drew1 | refine below_set ?_ GE245.out | refine below_set ?_ GE260.out | refine below_set ?_ GE267.out | refine below_set ?_ GE275.out) | exact HB.out)); rintro e w106 ⟨rfl, hy0, hy1, hb, hkp⟩; refine ⟨_, rfl, ?_⟩; replace HO_261000 := As.mk (Kd.S_kept HO_261000.out hkp (fun k_ hk_ hs_ => by rcases hs_ with hs_ | hs_ <;> (have h1_ := hs_.1; (try dsimp only at hk_ h1_); omega))); replace HO_261001 := As.mk (Kd.S_kept HO_261001.out hkp (fun k_ hk_ hs_ => by rcases hs_ with hs_ | hs_ <;> (have h1_ := hs_.1; (try dsimp only at hk_ h1_); omega))); replace BK245 := As.mk (blk_kept (bx BK245.out) hkp (fun hs_ => Or.elim hs_ (fun e_ => mkk_tyb e_ (bx BK245.out) (by decide)) (fun e_ => mkk_tyb e_ (bx BK245.out) (by decide)))); replace BK260 := As.mk (blk_kept (bx BK260.out) hkp (fun hs_ => Or.elim hs_ (fun e_ => mkk_tyb e_ (bx BK260.out) (by decide)) (fun e_ => mkk_tyb e_ (bx BK260.out) (by decide)))); replace BK267 := As.mk (blk_kept (bx BK267.out) hkp (fun hs_ => Or.elim hs_ (fun e_ => mkk_tyb e_ (bx BK267.out) (by decide)) (fun e_ => mkk_tyb e_ (bx BK267.out) (by decide)))); replace BK275 := As.mk (blk_kept (bx BK275.out) hkp (fun hs_ => Or.elim hs_ (fun e_ => mkk_tyb e_ (bx BK275.out) (by decide)) (fun e_ => mkk_tyb e_ (bx BK275.out) (by decide)))); replace HO_276000 := As.mk (Kd.S_mono hy0 (fun _ h_ => h_.1)); replace HO_276001 := As.mk (Kd.S_mono hy1 (fun _ h_ => h_.1)); replace HB := As.mk (hb); (try clear hb); (try clear hkp); (try clear hy0); (try clear hy1); obtain ⟨hcz107_0, hcz107_1, hfz107_0, hfz107_1⟩ := cl2 BK275.out) | ((with_reducible refine gate_callee (f := 10) rfl ?_); refine goesL_ (some 67) rfl rfl Try.func10 (by kernel_rfl) rfl #[.agg #[.slice Ao35 t289.length co35, .slice Ao40 t290.length co40], .int .i64 1] rfl (by (try simp only [lm]); first | done | (rw [show t289.length = t268.length from (Kd.S_reads' HO_276000.out).1.symm, show t290.length = t271.length from (Kd.S_reads' HO_276001.out).1.symm] <;> rfl) | rfl | (simp only [List.length_drop, List.length_take]; rfl)) ?_; (with_reducible refine (laws_heldProgram.calls kj63 _ _ t289 _ _ t290 1 t291 _ ?side1 ?side2 ?side3 ?side4 A96.out).mono ?_); (case side1 => repeat (first | exact (Kd.S_reads' HO_276000.out).2.2 | (with_reducible refine Kd.C_alloc ?_ _) | (with_reducible refine Kd.C_drewN ?_ _) | (with_reducible refine Kd.C_drew ?_))); (case side2 => rw [show t289.length = t268.length from (Kd.S_reads' HO_276000.out).1.symm]; exact (Kd.S_reads' HO_276000.out).2.1); (case side3 => repeat (first | exact (Kd.S_reads' HO_276001.out).2.2 | (with_reducible refine Kd.C_alloc ?_ _) | (with_reducible refine Kd.C_drewN ?_ _) | (with_reducible refine Kd.C_drew ?_))); (case side4 => rw [show t290.length = t271.length from (Kd.S_reads' HO_276001.out).1.symm]; exact (Kd.S_reads' HO_276001.out).2.1); rintro e w108 ⟨rfl, hb⟩; refine ⟨_, rfl, ?_⟩; replace HO_261000 := As.mk (Kd.S_below (by (with_reducible repeat (first | apply Kd.S_alloc | apply Kd.S_drewN | apply Kd.S_drew)); exact HO_261000.out) hb); replace HO_261001 := As.mk (Kd.S_below (by (with_reducible repeat (first | apply Kd.S_alloc | apply Kd.S_drewN | apply Kd.S_drew)); exact HO_261001.out) hb); replace HO_276000 := As.mk (Kd.S_below (by (with_reducible repeat (first | apply Kd.S_alloc | apply Kd.S_drewN | apply Kd.S_drew)); exact HO_276000.out) hb); replace HO_276001 := As.mk (Kd.S_below (by (with_reducible repeat (first | apply Kd.S_alloc | apply Kd.S_drewN | apply Kd.S_drew)); exact HO_276001.out) hb); replace BK245 := As.mk (blk_below (bx BK245.out) hb); replace BK260 := As.mk (blk_below (bx BK260.out) hb); replace BK267 := As.mk (blk_below (bx BK267.out) hb); replace BK275 := As.mk (blk_below (bx BK275.out) hb); replace HB := As.mk (below_step (be w) hb); (try clear hb); (try clear hb2); (try clear hk); (try clear hi); have hnb109 := NB245_260.out; have hnc109 := NB260_245.out; have hnb110 := NB245_267.out; have hnc110 := NB267_245.out; obtain ⟨hcz111_0, hcz111_1, hfz111_0, hfz111_1⟩ := cl2 BK245.out) | ((with_reducible refine gate_callee (f := 6) rfl ?_); refine goesL_ (some 75) rfl rfl Try.func6 (by kernel_rfl) rfl #[.agg #[.slice A0_0 l0_0.length c0_0, .slice A0_1 l0_1.length c0_1]] rfl (by (try simp only [lm]); first | done | rfl | (simp only [List.length_drop, List.length_take]; rfl)) ?_; (with_reducible refine (laws_toProgram.calls kj63 _ _ l0_0 _ _ l0_1 t292 t295 _ ?side1 ?side2 ?side3 ?side4 A99.out).mono ?_); (case side1 => exact Kd.C_below HR0_0.out (be w)); (case side2 => exact HC0_0.out); (case side3 => exact Kd.C_below HR0_1.out (be w)); (case side4 => exact HC0_1.out); rintro e w112 ⟨v293, v296, rfl, ho0, ho1, hb⟩; refine ⟨_, rfl, ?_⟩; have HO294 := As.mk (Kd.S_lower (sp_any ho0) (below_size (be w))); replace HO_261000 := As.mk (Kd.S_below (by (with_reducible repeat (first | apply Kd.S_alloc | apply Kd.S_drewN | apply Kd.S_drew)); exact HO_261000.out) hb); replace HO_276000 := As.mk (Kd.S_below (by (with_reducible repeat (first | apply Kd.S_alloc | apply Kd.S_drewN | apply Kd.S_drew)); exact HO_276000.out) hb); have HO297 := As.mk (Kd.S_lower (sp_any ho1) (below_size (be w))); replace HO_261001 := As.mk (Kd.S_below (by (with_reducible repeat (first | apply Kd.S_alloc | apply Kd.S_drewN | apply Kd.S_drew)); exact HO_261001.out) hb); replace HO_276001 := As.mk (Kd.S_below (by (with_reducible repeat (first | apply Kd.S_alloc | apply Kd.S_drewN | apply Kd.S_drew)); exact HO_276001.out) hb); replace BK245 := As.mk (blk_below (bx BK245.out) hb); replace BK260 := As.mk (blk_below (bx BK260.out) hb); replace BK267 := As.mk (blk_below (bx BK267.out) hb); replace BK275 := As.mk (blk_below (bx BK275.out) hb); replace HB := As.mk (below_step (be w) hb); (try clear hb); (try clear hb2); (try clear hk); (try clear hi); (try clear ho0); (try clear ho1); obtain ⟨Ao113, co113, eo113⟩ := Kd.S_slice HO294.out; subst eo113; obtain ⟨Ao114, co114, eo114⟩ := Kd.S_slice HO297.out; subst eo114) | ((with_reducible refine gate_callee (f := 7) rfl ?_); refine goesL_ (some 76) rfl rfl Try.func7 (by kernel_rfl) rfl #[.agg #[.slice Ao113 t292.length co113, .slice Ao114 t295.length co114]] rfl (by (try simp only [lm]); first | done | rfl | (simp only [List.length_drop, List.length_take]; rfl)) ?_; (with_reducible refine (impl_Packed.calls _ _ t292 _ _ t295 t298 t301 t304 _ ?side1 ?side2 ?side3 ?side4 A100.out).mono ?_); (case side1 => repeat (first | exact (Kd.S_reads' HO294.out).2.2 | (with_reducible refine Kd.C_alloc ?_ _) | (with_reducible refine Kd.C_drewN ?_ _) | (with_reducible refine Kd.C_drew ?_))); (case side2 => exact (Kd.S_reads' HO294.out).2.1); (case side3 => repeat (first | exact (Kd.S_reads' HO297.out).2.2 | (with_reducible refine Kd.C_alloc ?_ _) | (with_reducible refine Kd.C_drewN ?_ _) | (with_reducible refine Kd.C_drew ?_))); (case side4 => exact (Kd.S_reads' HO297.out).2.1); rintro e w115 ⟨v299, v302, rfl, ho0, ho1, hb⟩; refine ⟨_, rfl, ?_⟩; have HO300 := As.mk (Kd.S_lower (sp_any ho0) (below_size (be w))); replace HO_261000 := As.mk (Kd.S_below (by (with_reducible repeat (first | apply Kd.S_alloc | apply Kd.S_drewN | apply Kd.S_drew)); exact HO_261000.out) hb); replace HO_276000 := As.mk (Kd.S_below (by (with_reducible repeat (first | apply Kd.S_alloc | apply Kd.S_drewN | apply Kd.S_drew)); exact HO_276000.out) hb); replace HO294 := As.mk (Kd.S_below (by (with_reducible repeat (first | apply Kd.S_alloc | apply Kd.S_drewN | apply Kd.S_drew)); exact HO294.out) hb); have HO303 := As.mk (Kd.S_lower (sp_any ho1) (below_size (be w))); replace HO_261001 := As.mk (Kd.S_below (by (with_reducible repeat (first | apply Kd.S_alloc | apply Kd.S_drewN | apply Kd.S_drew)); exact HO_261001.out) hb); replace HO_276001 := As.mk (Kd.S_below (by (with_reducible repeat (first | apply Kd.S_alloc | apply Kd.S_drewN | apply Kd.S_drew)); exact HO_276001.out) hb); replace HO297 := As.mk (Kd.S_below (by (with_reducible repeat (first | apply Kd.S_alloc | apply Kd.S_drewN | apply Kd.S_drew)); exact HO297.out) hb); replace BK245 := As.mk (blk_below (bx BK245.out) hb); replace BK260 := As.mk (blk_below (bx BK260.out) hb); replace BK267 := As.mk (blk_below (bx BK267.out) hb); replace BK275 := As.mk (blk_below (bx BK275.out) hb); replace HB := As.mk (below_step (be w) hb); (try clear hb); (try clear hb2); (try clear hk); (try clear hi); (try clear ho0); (try clear ho1)) | ((with_reducible refine gate_dst (N := 12) rfl ?_); refine box_event ?hg (N := 12) ?hd (cs := #[.slice none 0 0, .slice none 0 0]) (t := 30) ?hr ?_; (case hd => rfl); (case hg => rfl); (case hr => first | (go_simp; done) | (go_simp; rfl)); intro gb305 hg w116 hbox hb; replace HO_261000 := As.mk (Kd.S_below (by (with_reducible repeat (first | apply Kd.S_alloc | apply Kd.S_drewN | apply Kd.S_drew)); exact HO_261000.out) hb); replace HO_261001 := As.mk (Kd.S_below (by (with_reducible repeat (first | apply Kd.S_alloc | apply Kd.S_drewN | apply Kd.S_drew)); exact HO_261001.out) hb); replace HO_276000 := As.mk (Kd.S_below (by (with_reducible repeat (first | apply Kd.S_alloc | apply Kd.S_drewN | apply Kd.S_drew)); exact HO_276000.out) hb); replace HO_276001 := As.mk (Kd.S_below (by (with_reducible repeat (first | apply Kd.S_alloc | apply Kd.S_drewN | apply Kd.S_drew)); exact HO_276001.out) hb); replace HO300 := As.mk (Kd.S_below (by (with_reducible repeat (first | apply Kd.S_alloc | apply Kd.S_drewN | apply Kd.S_drew)); exact HO300.out) hb); replace HO303 := As.mk (Kd.S_below (by (with_reducible repeat (first | apply Kd.S_alloc | apply Kd.S_drewN | apply Kd.S_drew)); exact HO303.out) hb); have BK305 := As.mk (hbox); have GW305 := As.mk (gs w hg); have GE305 := As.mk (gs w hg); replace HB := As.mk (below_step (be w) hb); have NB245_305 := As.mk (nl hg (bx BK245.out)); have NB305_245 := As.mk (ng hg (bx BK245.out)); replace BK245 := As.mk (blk_below (bx BK245.out) hb); have NB260_305 := As.mk (nl hg (bx BK260.out)); have NB305_260 := As.mk (ng hg (bx BK260.out)); replace BK260 := As.mk (blk_below (bx BK260.out) hb); have NB267_305 := As.mk (nl hg (bx BK267.out)); have NB305_267 := As.mk (ng hg (bx BK267.out)); replace BK267 := As.mk (blk_below (bx BK267.out) hb); have NB275_305 := As.mk (nl hg (bx BK275.out)); have NB305_275 := As.mk (ng hg (bx BK275.out)); replace BK275 := As.mk (blk_below (bx BK275.out) hb); clear hb hbox hg; obtain ⟨Ao117, co117, eo117⟩ := Kd.S_slice HO300.out; subst eo117; have hnb118 := NB305_245.out; have hnc118 := NB245_305.out; have hnb119 := NB305_260.out; have hnc119 := NB260_305.out; have hnb120 := NB305_267.out; have hnc120 := NB267_305.out; have hnb121 := NB305_275.out; have hnc121 := NB275_305.out; obtain ⟨hcz122_0, hcz122_1, hfz122_0, hfz122_1⟩ := cl2 BK305.out; obtain ⟨Ao123, co123, eo123⟩ := Kd.S_slice HO303.out; subst eo123))
     (try simp only [pk])
     go_cut [87] (fun v87 wc => ∃ (kq : Nat) (x87_100 : Bool), v87 = .bool x87_100 ∧ As (laws_FnExactPacked.j2 kq t288 x87_100 t289 t290 = some r) ∧ As (kq ≤ kj63) ∧ As (Kd.S k64 64 wc w.heap.size (fun k_ => n2 ≤ k_) (.slice Ao35 t268.length co35) t289) ∧ As (Kd.S k44 44 wc w.heap.size (fun k_ => n2 ≤ k_) (.slice Ao40 t271.length co40) t290) ∧ As (wc.heap[gb275]? = some (.cells #[(.slice Ao35 t268.length co35), (.slice Ao40 t271.length co40)] 30 (0, 0))) ∧ As (Below w.heap.size w wc))
     case first =>
      have H := HC101.out
      clear HC101
      obtain ⟨t306, A1240, H⟩ := Option.bind_eq_some_iff.mp H
      try dsimp only at H
      have A124 := As.mk A1240
      clear A1240
      by_cases c125 : t306 = true
      ·
       subst c125
       rw [if_pos rfl] at H
       have H' := As.mk H
       clear H
       have hnb126 := NB305_245.out
       have hnc126 := NB245_305.out
       have hnb127 := NB305_260.out
       have hnc127 := NB260_305.out
       have hnb128 := NB305_267.out
       have hnc128 := NB267_305.out
       have hnb129 := NB305_275.out
       have hnc129 := NB275_305.out
       obtain ⟨hcz130_0, hcz130_1, hfz130_0, hfz130_1⟩ := cl2 BK305.out
       have hnb131 := NB260_245.out
       have hnc131 := NB245_260.out
       have hnb132 := NB260_267.out
       have hnc132 := NB267_260.out
       have hnb133 := NB260_275.out
       have hnc133 := NB275_260.out
       obtain ⟨hcz134_0, hcz134_1, hfz134_0, hfz134_1⟩ := cl2 BK260.out
       go_wp2_with (first | ((with_reducible refine gate_callee (f := 8) rfl ?_); refine goesL_ (some 81) rfl rfl Try.func8 (by kernel_rfl) rfl #[.agg #[.slice Ao117 t298.length co117, .slice Ao123 t301.length co123], .agg #[.slice Ao21 t253.length co21, .slice Ao24 t256.length co24]] rfl (by (try simp only [lm]); first | done | rfl | (simp only [List.length_drop, List.length_take]; rfl)) ?_; (with_reducible refine (laws_eqProgram.calls kj63 _ _ t298 _ _ t301 _ _ t253 _ _ t256 true _ ?side1 ?side2 ?side3 ?side4 ?side5 ?side6 ?side7 ?side8 A124.out).mono ?_); (case side1 => refine (Kd.S_reads' (e := 64) (base := w.heap.size) (ok := fun _ => True) (n := t298.length) (c := co117) ?_).2.2; exact (by (with_reducible repeat (first | apply Kd.S_alloc | apply Kd.S_drewN | apply Kd.S_drew)); exact (Kd.S_mono (Kd.S_far (p := ⟨gb305, 1, none⟩) (Kd.S_far (p := ⟨gb305, 0, none⟩) (Kd.S_types HO300.out BK305.out (by decide)) (fun _ hk => hk.2) (.slice Ao117 t298.length co117)) (fun _ hk => hk.2) (.slice Ao123 t301.length co123)) (fun _ _ => trivial)))); (case side2 => exact (Kd.S_reads' HO300.out).2.1); (case side3 => refine (Kd.S_reads' (e := 44) (base := w.heap.size) (ok := fun _ => True) (n := t301.length) (c := co123) ?_).2.2; exact (by (with_reducible repeat (first | apply Kd.S_alloc | apply Kd.S_drewN | apply Kd.S_drew)); exact (Kd.S_mono (Kd.S_far (p := ⟨gb305, 1, none⟩) (Kd.S_far (p := ⟨gb305, 0, none⟩) (Kd.S_types HO303.out BK305.out (by decide)) (fun _ hk => hk.2) (.slice Ao117 t298.length co117)) (fun _ hk => hk.2) (.slice Ao123 t301.length co123)) (fun _ _ => trivial)))); (case side4 => exact (Kd.S_reads' HO303.out).2.1); (case side5 => refine (Kd.S_reads' (e := 64) (base := w.heap.size) (ok := fun _ => True) (n := t253.length) (c := co21) ?_).2.2; exact (by (with_reducible repeat (first | apply Kd.S_alloc | apply Kd.S_drewN | apply Kd.S_drew)); exact (Kd.S_mono (Kd.S_far (p := ⟨gb305, 1, none⟩) (Kd.S_far (p := ⟨gb305, 0, none⟩) (Kd.S_types HO_261000.out BK305.out (by decide)) (fun _ hk => hk.2) (.slice Ao117 t298.length co117)) (fun _ hk => hk.2) (.slice Ao123 t301.length co123)) (fun _ _ => trivial)))); (case side6 => exact (Kd.S_reads' HO_261000.out).2.1); (case side7 => refine (Kd.S_reads' (e := 44) (base := w.heap.size) (ok := fun _ => True) (n := t256.length) (c := co24) ?_).2.2; exact (by (with_reducible repeat (first | apply Kd.S_alloc | apply Kd.S_drewN | apply Kd.S_drew)); exact (Kd.S_mono (Kd.S_far (p := ⟨gb305, 1, none⟩) (Kd.S_far (p := ⟨gb305, 0, none⟩) (Kd.S_types HO_261001.out BK305.out (by decide)) (fun _ hk => hk.2) (.slice Ao117 t298.length co117)) (fun _ hk => hk.2) (.slice Ao123 t301.length co123)) (fun _ _ => trivial)))); (case side8 => exact (Kd.S_reads' HO_261001.out).2.1); rintro e w135 ⟨rfl, hb⟩; refine ⟨_, rfl, ?_⟩; replace HO_261000 := As.mk (Kd.S_below (by (with_reducible repeat (first | apply Kd.S_alloc | apply Kd.S_drewN | apply Kd.S_drew)); exact (Kd.S_mono (Kd.S_far (p := ⟨gb305, 1, none⟩) (Kd.S_far (p := ⟨gb305, 0, none⟩) (Kd.S_types HO_261000.out BK305.out (by decide)) (fun _ hk => hk.2) (.slice Ao117 t298.length co117)) (fun _ hk => hk.2) (.slice Ao123 t301.length co123)) (fun _ h_ => h_.1))) hb); replace HO_261001 := As.mk (Kd.S_below (by (with_reducible repeat (first | apply Kd.S_alloc | apply Kd.S_drewN | apply Kd.S_drew)); exact (Kd.S_mono (Kd.S_far (p := ⟨gb305, 1, none⟩) (Kd.S_far (p := ⟨gb305, 0, none⟩) (Kd.S_types HO_261001.out BK305.out (by decide)) (fun _ hk => hk.2) (.slice Ao117 t298.length co117)) (fun _ hk => hk.2) (.slice Ao123 t301.length co123)) (fun _ h_ => h_.1))) hb); replace HO_276000 := As.mk (Kd.S_below (by (with_reducible repeat (first | apply Kd.S_alloc | apply Kd.S_drewN | apply Kd.S_drew)); exact (Kd.S_mono (Kd.S_far (p := ⟨gb305, 1, none⟩) (Kd.S_far (p := ⟨gb305, 0, none⟩) (Kd.S_types HO_276000.out BK305.out (by decide)) (fun _ hk => hk.2) (.slice Ao117 t298.length co117)) (fun _ hk => hk.2) (.slice Ao123 t301.length co123)) (fun _ h_ => h_.1))) hb); replace HO_276001 := As.mk (Kd.S_below (by (with_reducible repeat (first | apply Kd.S_alloc | apply Kd.S_drewN | apply Kd.S_drew)); exact (Kd.S_mono (Kd.S_far (p := ⟨gb305, 1, none⟩) (Kd.S_far (p := ⟨gb305, 0, none⟩) (Kd.S_types HO_276001.out BK305.out (by decide)) (fun _ hk => hk.2) (.slice Ao117 t298.length co117)) (fun _ hk => hk.2) (.slice Ao123 t301.length co123)) (fun _ h_ => h_.1))) hb); replace HO300 := As.mk (Kd.S_below (by (with_reducible repeat (first | apply Kd.S_alloc | apply Kd.S_drewN | apply Kd.S_drew)); exact (Kd.S_mono (Kd.S_far (p := ⟨gb305, 1, none⟩) (Kd.S_far (p := ⟨gb305, 0, none⟩) (Kd.S_types HO300.out BK305.out (by decide)) (fun _ hk => hk.2) (.slice Ao117 t298.length co117)) (fun _ hk => hk.2) (.slice Ao123 t301.length co123)) (fun _ h_ => h_.1))) hb); replace HO303 := As.mk (Kd.S_below (by (with_reducible repeat (first | apply Kd.S_alloc | apply Kd.S_drewN | apply Kd.S_drew)); exact (Kd.S_mono (Kd.S_far (p := ⟨gb305, 1, none⟩) (Kd.S_far (p := ⟨gb305, 0, none⟩) (Kd.S_types HO303.out BK305.out (by decide)) (fun _ hk => hk.2) (.slice Ao117 t298.length co117)) (fun _ hk => hk.2) (.slice Ao123 t301.length co123)) (fun _ h_ => h_.1))) hb); replace BK245 := As.mk (blk_below (g := gb245) (o := .cells #[.slice A0_0 l0_0.length c0_0, .slice A0_1 l0_1.length c0_1] 25 (0, 0)) (by refine pl ?_; refine blk_far ?_ NB245_305.out _; refine pl ?_; refine blk_far ?_ NB245_305.out _; exact bx BK245.out) hb); replace BK260 := As.mk (blk_below (g := gb260) (o := .cells #[.slice Ao21 t253.length co21, .slice Ao24 t256.length co24] 30 (0, 0)) (by refine pl ?_; refine blk_far ?_ NB260_305.out _; refine pl ?_; refine blk_far ?_ NB260_305.out _; exact bx BK260.out) hb); replace BK267 := As.mk (blk_below (g := gb267) (o := .cells #[.slice Ao28 t285.length co28, .slice Ao32 t286.length co32] 30 (0, 0)) (by refine pl ?_; refine blk_far ?_ NB267_305.out _; refine pl ?_; refine blk_far ?_ NB267_305.out _; exact bx BK267.out) hb); replace BK275 := As.mk (blk_below (g := gb275) (o := .cells #[.slice Ao35 t268.length co35, .slice Ao40 t271.length co40] 30 (0, 0)) (by refine pl ?_; refine blk_far ?_ NB275_305.out _; refine pl ?_; refine blk_far ?_ NB275_305.out _; exact bx BK275.out) hb); replace BK305 := As.mk (blk_below (g := gb305) (o := .cells #[.slice Ao117 t298.length co117, .slice Ao123 t301.length co123] 30 (0, 0)) (by refine pl ?_; refine blk_put (cs := #[.slice Ao117 t298.length co117, .slice none 0 0]) ?_ 1 _ rfl; refine pl ?_; refine blk_put (cs := #[.slice none 0 0, .slice none 0 0]) ?_ 0 _ rfl; exact bx BK305.out) hb); replace HB := As.mk (below_step (be w) hb); (try clear hb); (try clear hb2); (try clear hk); (try clear hi)))
       go_meet
       case rel => exact ⟨_, ((t304 != t259)), (by first | rfl | (simp; done) | (simp [*]; done)), H', ⟨by have := HJ10.out; have := HJ63.out; first | omega | exact Nat.le_refl _⟩, ⟨by (try simp only [hl268000_63]); (try simp only [hl268001_63]); (with_reducible repeat (first | apply Kd.S_alloc | apply Kd.S_drewN | apply Kd.S_drew)); exact Kd.S_mono HO_276000.out (fun k_ hk => by (try dsimp only at hk ⊢); omega)⟩, ⟨by (try simp only [hl268000_63]); (try simp only [hl268001_63]); (with_reducible repeat (first | apply Kd.S_alloc | apply Kd.S_drewN | apply Kd.S_drew)); exact Kd.S_mono HO_276001.out (fun k_ hk => by (try dsimp only at hk ⊢); omega)⟩, ⟨by (try simp only [hl268000_63]); (try simp only [hl268001_63]); exact bx BK275.out⟩, ⟨be w⟩⟩
      replace c125 := Bool.eq_false_iff.mpr c125
      subst c125
      rw [if_neg (show ¬ (false = true) by decide)] at H
      have H' := As.mk H
      clear H
      have hnb136 := NB305_245.out
      have hnc136 := NB245_305.out
      have hnb137 := NB305_260.out
      have hnc137 := NB260_305.out
      have hnb138 := NB305_267.out
      have hnc138 := NB267_305.out
      have hnb139 := NB305_275.out
      have hnc139 := NB275_305.out
      obtain ⟨hcz140_0, hcz140_1, hfz140_0, hfz140_1⟩ := cl2 BK305.out
      have hnb141 := NB260_245.out
      have hnc141 := NB245_260.out
      have hnb142 := NB260_267.out
      have hnc142 := NB267_260.out
      have hnb143 := NB260_275.out
      have hnc143 := NB275_260.out
      obtain ⟨hcz144_0, hcz144_1, hfz144_0, hfz144_1⟩ := cl2 BK260.out
      go_wp2_with (first | ((with_reducible refine gate_callee (f := 8) rfl ?_); refine goesL_ (some 81) rfl rfl Try.func8 (by kernel_rfl) rfl #[.agg #[.slice Ao117 t298.length co117, .slice Ao123 t301.length co123], .agg #[.slice Ao21 t253.length co21, .slice Ao24 t256.length co24]] rfl (by (try simp only [lm]); first | done | rfl | (simp only [List.length_drop, List.length_take]; rfl)) ?_; (with_reducible refine (laws_eqProgram.calls kj63 _ _ t298 _ _ t301 _ _ t253 _ _ t256 false _ ?side1 ?side2 ?side3 ?side4 ?side5 ?side6 ?side7 ?side8 A124.out).mono ?_); (case side1 => refine (Kd.S_reads' (e := 64) (base := w.heap.size) (ok := fun _ => True) (n := t298.length) (c := co117) ?_).2.2; exact (by (with_reducible repeat (first | apply Kd.S_alloc | apply Kd.S_drewN | apply Kd.S_drew)); exact (Kd.S_mono (Kd.S_far (p := ⟨gb305, 1, none⟩) (Kd.S_far (p := ⟨gb305, 0, none⟩) (Kd.S_types HO300.out BK305.out (by decide)) (fun _ hk => hk.2) (.slice Ao117 t298.length co117)) (fun _ hk => hk.2) (.slice Ao123 t301.length co123)) (fun _ _ => trivial)))); (case side2 => exact (Kd.S_reads' HO300.out).2.1); (case side3 => refine (Kd.S_reads' (e := 44) (base := w.heap.size) (ok := fun _ => True) (n := t301.length) (c := co123) ?_).2.2; exact (by (with_reducible repeat (first | apply Kd.S_alloc | apply Kd.S_drewN | apply Kd.S_drew)); exact (Kd.S_mono (Kd.S_far (p := ⟨gb305, 1, none⟩) (Kd.S_far (p := ⟨gb305, 0, none⟩) (Kd.S_types HO303.out BK305.out (by decide)) (fun _ hk => hk.2) (.slice Ao117 t298.length co117)) (fun _ hk => hk.2) (.slice Ao123 t301.length co123)) (fun _ _ => trivial)))); (case side4 => exact (Kd.S_reads' HO303.out).2.1); (case side5 => refine (Kd.S_reads' (e := 64) (base := w.heap.size) (ok := fun _ => True) (n := t253.length) (c := co21) ?_).2.2; exact (by (with_reducible repeat (first | apply Kd.S_alloc | apply Kd.S_drewN | apply Kd.S_drew)); exact (Kd.S_mono (Kd.S_far (p := ⟨gb305, 1, none⟩) (Kd.S_far (p := ⟨gb305, 0, none⟩) (Kd.S_types HO_261000.out BK305.out (by decide)) (fun _ hk => hk.2) (.slice Ao117 t298.length co117)) (fun _ hk => hk.2) (.slice Ao123 t301.length co123)) (fun _ _ => trivial)))); (case side6 => exact (Kd.S_reads' HO_261000.out).2.1); (case side7 => refine (Kd.S_reads' (e := 44) (base := w.heap.size) (ok := fun _ => True) (n := t256.length) (c := co24) ?_).2.2; exact (by (with_reducible repeat (first | apply Kd.S_alloc | apply Kd.S_drewN | apply Kd.S_drew)); exact (Kd.S_mono (Kd.S_far (p := ⟨gb305, 1, none⟩) (Kd.S_far (p := ⟨gb305, 0, none⟩) (Kd.S_types HO_261001.out BK305.out (by decide)) (fun _ hk => hk.2) (.slice Ao117 t298.length co117)) (fun _ hk => hk.2) (.slice Ao123 t301.length co123)) (fun _ _ => trivial)))); (case side8 => exact (Kd.S_reads' HO_261001.out).2.1); rintro e w145 ⟨rfl, hb⟩; refine ⟨_, rfl, ?_⟩; replace HO_261000 := As.mk (Kd.S_below (by (with_reducible repeat (first | apply Kd.S_alloc | apply Kd.S_drewN | apply Kd.S_drew)); exact (Kd.S_mono (Kd.S_far (p := ⟨gb305, 1, none⟩) (Kd.S_far (p := ⟨gb305, 0, none⟩) (Kd.S_types HO_261000.out BK305.out (by decide)) (fun _ hk => hk.2) (.slice Ao117 t298.length co117)) (fun _ hk => hk.2) (.slice Ao123 t301.length co123)) (fun _ h_ => h_.1))) hb); replace HO_261001 := As.mk (Kd.S_below (by (with_reducible repeat (first | apply Kd.S_alloc | apply Kd.S_drewN | apply Kd.S_drew)); exact (Kd.S_mono (Kd.S_far (p := ⟨gb305, 1, none⟩) (Kd.S_far (p := ⟨gb305, 0, none⟩) (Kd.S_types HO_261001.out BK305.out (by decide)) (fun _ hk => hk.2) (.slice Ao117 t298.length co117)) (fun _ hk => hk.2) (.slice Ao123 t301.length co123)) (fun _ h_ => h_.1))) hb); replace HO_276000 := As.mk (Kd.S_below (by (with_reducible repeat (first | apply Kd.S_alloc | apply Kd.S_drewN | apply Kd.S_drew)); exact (Kd.S_mono (Kd.S_far (p := ⟨gb305, 1, none⟩) (Kd.S_far (p := ⟨gb305, 0, none⟩) (Kd.S_types HO_276000.out BK305.out (by decide)) (fun _ hk => hk.2) (.slice Ao117 t298.length co117)) (fun _ hk => hk.2) (.slice Ao123 t301.length co123)) (fun _ h_ => h_.1))) hb); replace HO_276001 := As.mk (Kd.S_below (by (with_reducible repeat (first | apply Kd.S_alloc | apply Kd.S_drewN | apply Kd.S_drew)); exact (Kd.S_mono (Kd.S_far (p := ⟨gb305, 1, none⟩) (Kd.S_far (p := ⟨gb305, 0, none⟩) (Kd.S_types HO_276001.out BK305.out (by decide)) (fun _ hk => hk.2) (.slice Ao117 t298.length co117)) (fun _ hk => hk.2) (.slice Ao123 t301.length co123)) (fun _ h_ => h_.1))) hb); replace HO300 := As.mk (Kd.S_below (by (with_reducible repeat (first | apply Kd.S_alloc | apply Kd.S_drewN | apply Kd.S_drew)); exact (Kd.S_mono (Kd.S_far (p := ⟨gb305, 1, none⟩) (Kd.S_far (p := ⟨gb305, 0, none⟩) (Kd.S_types HO300.out BK305.out (by decide)) (fun _ hk => hk.2) (.slice Ao117 t298.length co117)) (fun _ hk => hk.2) (.slice Ao123 t301.length co123)) (fun _ h_ => h_.1))) hb); replace HO303 := As.mk (Kd.S_below (by (with_reducible repeat (first | apply Kd.S_alloc | apply Kd.S_drewN | apply Kd.S_drew)); exact (Kd.S_mono (Kd.S_far (p := ⟨gb305, 1, none⟩) (Kd.S_far (p := ⟨gb305, 0, none⟩) (Kd.S_types HO303.out BK305.out (by decide)) (fun _ hk => hk.2) (.slice Ao117 t298.length co117)) (fun _ hk => hk.2) (.slice Ao123 t301.length co123)) (fun _ h_ => h_.1))) hb); replace BK245 := As.mk (blk_below (g := gb245) (o := .cells #[.slice A0_0 l0_0.length c0_0, .slice A0_1 l0_1.length c0_1] 25 (0, 0)) (by refine pl ?_; refine blk_far ?_ NB245_305.out _; refine pl ?_; refine blk_far ?_ NB245_305.out _; exact bx BK245.out) hb); replace BK260 := As.mk (blk_below (g := gb260) (o := .cells #[.slice Ao21 t253.length co21, .slice Ao24 t256.length co24] 30 (0, 0)) (by refine pl ?_; refine blk_far ?_ NB260_305.out _; refine pl ?_; refine blk_far ?_ NB260_305.out _; exact bx BK260.out) hb); replace BK267 := As.mk (blk_below (g := gb267) (o := .cells #[.slice Ao28 t285.length co28, .slice Ao32 t286.length co32] 30 (0, 0)) (by refine pl ?_; refine blk_far ?_ NB267_305.out _; refine pl ?_; refine blk_far ?_ NB267_305.out _; exact bx BK267.out) hb); replace BK275 := As.mk (blk_below (g := gb275) (o := .cells #[.slice Ao35 t268.length co35, .slice Ao40 t271.length co40] 30 (0, 0)) (by refine pl ?_; refine blk_far ?_ NB275_305.out _; refine pl ?_; refine blk_far ?_ NB275_305.out _; exact bx BK275.out) hb); replace BK305 := As.mk (blk_below (g := gb305) (o := .cells #[.slice Ao117 t298.length co117, .slice Ao123 t301.length co123] 30 (0, 0)) (by refine pl ?_; refine blk_put (cs := #[.slice Ao117 t298.length co117, .slice none 0 0]) ?_ 1 _ rfl; refine pl ?_; refine blk_put (cs := #[.slice none 0 0, .slice none 0 0]) ?_ 0 _ rfl; exact bx BK305.out) hb); replace HB := As.mk (below_step (be w) hb); (try clear hb); (try clear hb2); (try clear hk); (try clear hi)))
      go_meet
      case rel => exact ⟨_, (true), (by first | rfl | (simp; done) | (simp [*]; done)), H', ⟨by have := HJ10.out; have := HJ63.out; first | omega | exact Nat.le_refl _⟩, ⟨by (try simp only [hl268000_63]); (try simp only [hl268001_63]); (with_reducible repeat (first | apply Kd.S_alloc | apply Kd.S_drewN | apply Kd.S_drew)); exact Kd.S_mono HO_276000.out (fun k_ hk => by (try dsimp only at hk ⊢); omega)⟩, ⟨by (try simp only [hl268000_63]); (try simp only [hl268001_63]); (with_reducible repeat (first | apply Kd.S_alloc | apply Kd.S_drewN | apply Kd.S_drew)); exact Kd.S_mono HO_276001.out (fun k_ hk => by (try dsimp only at hk ⊢); omega)⟩, ⟨by (try simp only [hl268000_63]); (try simp only [hl268001_63]); exact bx BK275.out⟩, ⟨be w⟩⟩
     case rest =>
      clear HC101
      (try clear c3); (try clear c3b0); (try clear c59); (try clear c62); (try clear c94); (try clear c97); (try clear c97b0); (try clear c98); (try clear c98b0); (try clear c98b1); (try clear hcz105_0); (try clear hcz105_1); (try clear hcz107_0); (try clear hcz107_1); (try clear hcz111_0); (try clear hcz111_1); (try clear hcz122_0); (try clear hcz122_1); (try clear hcz13_0); (try clear hcz13_1); (try clear hcz15_0); (try clear hcz15_1); (try clear hcz23_0); (try clear hcz23_1); (try clear hcz25_0); (try clear hcz25_1); (try clear hcz31_0); (try clear hcz31_1); (try clear hcz39_0); (try clear hcz39_1); (try clear hcz73_0); (try clear hcz73_1); (try clear hfz105_0); (try clear hfz105_1); (try clear hfz107_0); (try clear hfz107_1); (try clear hfz111_0); (try clear hfz111_1); (try clear hfz122_0); (try clear hfz122_1); (try clear hfz13_0); (try clear hfz13_1); (try clear hfz15_0); (try clear hfz15_1); (try clear hfz23_0); (try clear hfz23_1); (try clear hfz25_0); (try clear hfz25_1); (try clear hfz31_0); (try clear hfz31_1); (try clear hfz39_0); (try clear hfz39_1); (try clear hfz73_0); (try clear hfz73_1)
      obtain ⟨kq, x87_100, rfl, HA, HJ100, HO_276000, HO_276001, BK275, HB⟩ := hcut
      have hl276000_100 := (Kd.S_reads' HO_276000.out).1
      rw [hl276000_100] at HO_276000
      (try simp only [hl276000_100])
      (try simp only [hl276000_100] at BK275)
      (try simp only [hl276000_100] at HO_276001)
      have hl276001_100 := (Kd.S_reads' HO_276001.out).1
      rw [hl276001_100] at HO_276001
      (try simp only [hl276001_100])
      (try simp only [hl276001_100] at BK275)
      (try simp only [hl276001_100] at HO_276000)
      cases kq with
      | zero => exact absurd HA.out (by simp [laws_FnExactPacked.j2])
      | succ kj100 =>
       have H := HA.out
       clear HA
       simp only [laws_FnExactPacked.j2] at H
       by_cases c146 : x87_100 = true
       ·
        subst c146
        rw [if_pos rfl] at H
        exact absurd H (by rw [hrt.out]; simp)
       replace c146 := Bool.eq_false_iff.mpr c146
       subst c146
       rw [if_neg (show ¬ (false = true) by decide)] at H
       obtain ⟨t307, A1470, H⟩ := Option.bind_eq_some_iff.mp H
       try dsimp only at H
       have A147 := As.mk A1470
       clear A1470
       by_cases c148 : t307 < 0
       ·
        rw [if_pos c148] at H
        have c148b0 : decide (t307 < 0) = true := decide_eq_true c148
        clear c148
        exact absurd H (by rw [hrt.out]; simp)
       rw [if_neg c148] at H
       have c148b0 : decide (t307 < 0) = false := decide_eq_false c148
       clear c148
       by_cases c149 : t307 = t288
       rotate_left
       ·
        rw [if_neg c149] at H
        have c149b0 : (t307 == t288) = false := beq_eq_false_iff_ne.mpr c149
        have c149b1 : (t307 != t288) = true := bne_iff_ne.mpr c149
        exact absurd H (by rw [hrt.out]; simp)
       rw [if_pos c149] at H
       have c149b0 : (t307 == t288) = true := beq_iff_eq.mpr c149
       have c149b1 : (t307 != t288) = false := bne_eq_false_iff_eq.mpr c149
       clear c149
       obtain rfl := Option.some.inj H
       obtain ⟨hcz150_0, hcz150_1, hfz150_0, hfz150_1⟩ := cl2 BK275.out
       go_wp2_with (first | ((with_reducible refine gate_callee (f := 10) rfl ?_); refine goesL_ (some 90) rfl rfl Try.func10 (by kernel_rfl) rfl #[.agg #[.slice Ao35 t289.length co35, .slice Ao40 t290.length co40], .int .i64 1] rfl (by (try simp only [lm]); first | done | rfl | (simp only [List.length_drop, List.length_take]; rfl)) ?_; (with_reducible refine (laws_heldProgram.calls kj100 _ _ t289 _ _ t290 1 t307 _ ?side1 ?side2 ?side3 ?side4 A147.out).mono ?_); (case side1 => repeat (first | exact (Kd.S_reads' HO_276000.out).2.2 | (with_reducible refine Kd.C_alloc ?_ _) | (with_reducible refine Kd.C_drewN ?_ _) | (with_reducible refine Kd.C_drew ?_))); (case side2 => exact (Kd.S_reads' HO_276000.out).2.1); (case side3 => repeat (first | exact (Kd.S_reads' HO_276001.out).2.2 | (with_reducible refine Kd.C_alloc ?_ _) | (with_reducible refine Kd.C_drewN ?_ _) | (with_reducible refine Kd.C_drew ?_))); (case side4 => exact (Kd.S_reads' HO_276001.out).2.1); rintro e w151 ⟨rfl, hb⟩; refine ⟨_, rfl, ?_⟩; replace HO_276000 := As.mk (Kd.S_below (by (with_reducible repeat (first | apply Kd.S_alloc | apply Kd.S_drewN | apply Kd.S_drew)); exact HO_276000.out) hb); replace HO_276001 := As.mk (Kd.S_below (by (with_reducible repeat (first | apply Kd.S_alloc | apply Kd.S_drewN | apply Kd.S_drew)); exact HO_276001.out) hb); replace HB := As.mk (below_step (be w) hb); (try clear hb); (try clear hb2); (try clear hk); (try clear hi)))
       go_ret
       exact ⟨ez, be w⟩
end Go.Proofs.Ytnepkmbknoanjaa.PFnExactPacked
