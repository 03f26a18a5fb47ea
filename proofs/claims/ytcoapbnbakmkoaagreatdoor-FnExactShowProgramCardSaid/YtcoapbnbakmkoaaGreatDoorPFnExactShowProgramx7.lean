/- Written by a program of this session (a turned copy of the kit's print): a contract for each Go function. No condition beside those in each statement. -/
import Derived.Test.YtcoapbnbakmkoaaGreatDoorPFnExactShowProgramx0
import Derived.Test.YtcoapbnbakmkoaaGreatDoorPFnExactShowProgramx3
import Derived.Test.YtcoapbnbakmkoaaGreatDoorPFnExactShowProgramx4
import Derived.Test.YtcoapbnbakmkoaaGreatDoorPFnExactShowProgramx6
namespace Go.Proofs.YtcoapbnbakmkoaaGreatDoor.PFnExactShowProgram
open Go.RowKit Go.Proofs.YtcoapbnbakmkoaaGreatDoor.Given Go.Proofs.YtcoapbnbakmkoaaGreatDoorW.PrintWords Go.Proofs.YtcoapbnbakmkoaaGreatDoorW.PrintLast Go.Proofs.YtcoapbnbakmkoaaGreatDoorW.PrintMore
attribute [local go_sem] max2_int min2_int max_two min_two max_three min_three max_four min_four   -- for this text's walks alone
set_option linter.unusedVariables false
set_option linter.unusedSimpArgs false

/-! ### spec_l04Fn: function 77 -/
mutual
def spec_l04Fn.j0 : Nat → Bool → List (S62) → List (S56) → ByteArray → List (S58) → Int → Int → Int → Option (Bool)
 | 0, _, _, _, _, _, _, _, _ => none
 | k + 1, x35, x261000, x261001, x263000, x263001, x263002, x263003, x263004 => if x35 = true then (some false) else (spec_l04Fn.l0 k 0 x261000 x261001 x263000 x263001 x263002 x263003 x263004)
def spec_l04Fn.l0 : Nat → Int → List (S62) → List (S56) → ByteArray → List (S58) → Int → Int → Int → Option (Bool)
 | 0, _, _, _, _, _, _, _, _ => none
 | k + 1, x6, x261000, x261001, x263000, x263001, x263002, x263003, x263004 => if x6 < (x263001.length : Int) then (if 0 ≤ x6 then ((spec_NameOk.f k ((rd_T58 x263001 x6).f0)).bind fun t267 => (if t267 = true then ((spec_l01In.f ((rd_T58 x263001 x6).f1) 1 4).bind fun t269 => (if t269 = true then (spec_l04Fn.l0 k (wrap64 (x6 + 1)) x261000 x261001 x263000 x263001 x263002 x263003 x263004) else (some false))) else (some false))) else (none)) else ((spec_l01In.f x263003 0 (wrap64 ((x261000.length : Int) - 1))).bind fun t270 => (if t270 = true then (if 0 ≤ x263003 then (if x263003 < (x261000.length : Int) then (spec_l04Fn.j2 k (((rd_T62 x261000 x263003).f0) != 20) x261000 x261001 x263000 x263001 x263002 x263003 x263004) else (none)) else (none)) else (spec_l04Fn.j2 k true x261000 x261001 x263000 x263001 x263002 x263003 x263004)))
def spec_l04Fn.j2 : Nat → Bool → List (S62) → List (S56) → ByteArray → List (S58) → Int → Int → Int → Option (Bool)
 | 0, _, _, _, _, _, _, _, _ => none
 | k + 1, x78, x261000, x261001, x263000, x263001, x263002, x263003, x263004 => if x78 = true then (some false) else (if x263002 = 0 then (some (x263004 == (-1))) else ((spec_l01In.f x263004 0 (wrap64 ((x261000.length : Int) - 1))).bind fun t272 => (if t272 = true then (if 0 ≤ x263004 then (if x263004 < (x261000.length : Int) then ((spec_l04Value.f ((rd_T62 x261000 x263004).f0)).bind fun t274 => (some t274)) else (none)) else (none)) else (some false))))
end
def spec_l04Fn.f (k : Nat) (l0_0 : List (S62)) (l0_1 : List (S56)) (a1 : Int) : Option (Bool) := if 0 ≤ a1 then (if a1 < (l0_1.length : Int) then ((spec_NameOk.f k ((rd_T56 l0_1 a1).f0)).bind fun t263 => (if t263 = true then ((spec_FnAt.f k l0_0 l0_1 ((rd_T56 l0_1 a1).f0)).bind fun t264 => (if t264 = a1 then (if (((rd_T56 l0_1 a1).f1).length : Int) > 3 then (spec_l04Fn.j0 k true l0_0 l0_1 ((rd_T56 l0_1 a1).f0) ((rd_T56 l0_1 a1).f1) ((rd_T56 l0_1 a1).f2) ((rd_T56 l0_1 a1).f3) ((rd_T56 l0_1 a1).f4)) else ((spec_l01In.f ((rd_T56 l0_1 a1).f2) 0 2).bind fun t265 => (spec_l04Fn.j0 k (!t265) l0_0 l0_1 ((rd_T56 l0_1 a1).f0) ((rd_T56 l0_1 a1).f1) ((rd_T56 l0_1 a1).f2) ((rd_T56 l0_1 a1).f3) ((rd_T56 l0_1 a1).f4)))) else (spec_l04Fn.j0 k true l0_0 l0_1 ((rd_T56 l0_1 a1).f0) ((rd_T56 l0_1 a1).f1) ((rd_T56 l0_1 a1).f2) ((rd_T56 l0_1 a1).f3) ((rd_T56 l0_1 a1).f4)))) else (spec_l04Fn.j0 k true l0_0 l0_1 ((rd_T56 l0_1 a1).f0) ((rd_T56 l0_1 a1).f1) ((rd_T56 l0_1 a1).f2) ((rd_T56 l0_1 a1).f3) ((rd_T56 l0_1 a1).f4)))) else (none)) else (none)
theorem spec_l04Fn.mono_l : ∀ k, (∀ y0 y1 y2 y3 y4 y5 y6 y7, LeO (spec_l04Fn.j0 k y0 y1 y2 y3 y4 y5 y6 y7) (spec_l04Fn.j0 (k + 1) y0 y1 y2 y3 y4 y5 y6 y7)) ∧ (∀ y0 y1 y2 y3 y4 y5 y6 y7, LeO (spec_l04Fn.l0 k y0 y1 y2 y3 y4 y5 y6 y7) (spec_l04Fn.l0 (k + 1) y0 y1 y2 y3 y4 y5 y6 y7)) ∧ (∀ y0 y1 y2 y3 y4 y5 y6 y7, LeO (spec_l04Fn.j2 k y0 y1 y2 y3 y4 y5 y6 y7) (spec_l04Fn.j2 (k + 1) y0 y1 y2 y3 y4 y5 y6 y7))
 | 0 => ⟨fun _ _ _ _ _ _ _ _ r h => by simp [spec_l04Fn.j0] at h, fun _ _ _ _ _ _ _ _ r h => by simp [spec_l04Fn.l0] at h, fun _ _ _ _ _ _ _ _ r h => by simp [spec_l04Fn.j2] at h⟩
 | k + 1 => by
  obtain ⟨ih0, ih1, ih2⟩ := spec_l04Fn.mono_l k
  refine ⟨?_, ?_, ?_⟩
  ·
   intro y0 y1 y2 y3 y4 y5 y6 y7
   unfold spec_l04Fn.j0
   with_reducible repeat' first | exact ih0 _ _ _ _ _ _ _ _ | exact ih1 _ _ _ _ _ _ _ _ | exact ih2 _ _ _ _ _ _ _ _ | exact spec_FnAt.mono _ _ _ _ | exact spec_NameOk.mono _ _ | exact LeO.refl _ | exact LeO.none _ | refine LeO.ite ?_ ?_ | refine LeO.bind ?_ (fun _ => ?_)
  ·
   intro y0 y1 y2 y3 y4 y5 y6 y7
   unfold spec_l04Fn.l0
   with_reducible repeat' first | exact ih0 _ _ _ _ _ _ _ _ | exact ih1 _ _ _ _ _ _ _ _ | exact ih2 _ _ _ _ _ _ _ _ | exact spec_FnAt.mono _ _ _ _ | exact spec_NameOk.mono _ _ | exact LeO.refl _ | exact LeO.none _ | refine LeO.ite ?_ ?_ | refine LeO.bind ?_ (fun _ => ?_)
  ·
   intro y0 y1 y2 y3 y4 y5 y6 y7
   unfold spec_l04Fn.j2
   with_reducible repeat' first | exact ih0 _ _ _ _ _ _ _ _ | exact ih1 _ _ _ _ _ _ _ _ | exact ih2 _ _ _ _ _ _ _ _ | exact spec_FnAt.mono _ _ _ _ | exact spec_NameOk.mono _ _ | exact LeO.refl _ | exact LeO.none _ | refine LeO.ite ?_ ?_ | refine LeO.bind ?_ (fun _ => ?_)
theorem spec_l04Fn.mono : ∀ a0 a1 a2 k, LeO (spec_l04Fn.f k a0 a1 a2) (spec_l04Fn.f (k + 1) a0 a1 a2) := by
 intro a0 a1 a2 k; obtain ⟨ih0, ih1, ih2⟩ := spec_l04Fn.mono_l k
 unfold spec_l04Fn.f
 with_reducible repeat' first | exact ih0 _ _ _ _ _ _ _ _ | exact ih1 _ _ _ _ _ _ _ _ | exact ih2 _ _ _ _ _ _ _ _ | exact spec_FnAt.mono _ _ _ _ | exact spec_NameOk.mono _ _ | exact LeO.refl _ | exact LeO.none _ | refine LeO.ite ?_ ?_ | refine LeO.bind ?_ (fun _ => ?_)
set_option maxHeartbeats 8000000 in
set_option maxRecDepth 100000 in
theorem spec_l04Fn.calls (k : Nat) (A0_0 : Option Addr) (c0_0 : Nat) (l0_0 : List (S62)) (A0_1 : Option Addr) (c0_1 : Nat) (l0_1 : List (S56)) (a1 : Int) (r : Bool) (w : World) (hr0_0 : Kd.C k62 w A0_0 l0_0.length l0_0) (hc0_0 : l0_0.length ≤ c0_0) (hr0_1 : Kd.C k56 w A0_1 l0_1.length l0_1) (hc0_1 : l0_1.length ≤ c0_1) (h : spec_l04Fn.f k l0_0 l0_1 a1 = some r) :
  Calls Tryz.prog 77 #[.agg #[.slice A0_0 l0_0.length c0_0, .slice A0_1 l0_1.length c0_1], .int .i64 a1] w fun e w' => e = .returned (.bool r) ∧ Below w.heap.size w w' := by
 have hu32 := Tryz.underlying32; have hu56 := Tryz.underlying56; have HR0_0 := As.mk hr0_0; have HC0_0 := As.mk hc0_0; clear hr0_0 hc0_0; have HR0_1 := As.mk hr0_1; have HC0_1 := As.mk hc0_1; clear hr0_1 hc0_1; have HB := As.mk (Below.refl w.heap.size w); have H : (if 0 ≤ a1 then (if a1 < (l0_1.length : Int) then ((spec_NameOk.f k ((rd_T56 l0_1 a1).f0)).bind fun t263 => (if t263 = true then ((spec_FnAt.f k l0_0 l0_1 ((rd_T56 l0_1 a1).f0)).bind fun t264 => (if t264 = a1 then (if (((rd_T56 l0_1 a1).f1).length : Int) > 3 then (spec_l04Fn.j0 k true l0_0 l0_1 ((rd_T56 l0_1 a1).f0) ((rd_T56 l0_1 a1).f1) ((rd_T56 l0_1 a1).f2) ((rd_T56 l0_1 a1).f3) ((rd_T56 l0_1 a1).f4)) else ((spec_l01In.f ((rd_T56 l0_1 a1).f2) 0 2).bind fun t265 => (spec_l04Fn.j0 k (!t265) l0_0 l0_1 ((rd_T56 l0_1 a1).f0) ((rd_T56 l0_1 a1).f1) ((rd_T56 l0_1 a1).f2) ((rd_T56 l0_1 a1).f3) ((rd_T56 l0_1 a1).f4)))) else (spec_l04Fn.j0 k true l0_0 l0_1 ((rd_T56 l0_1 a1).f0) ((rd_T56 l0_1 a1).f1) ((rd_T56 l0_1 a1).f2) ((rd_T56 l0_1 a1).f3) ((rd_T56 l0_1 a1).f4)))) else (spec_l04Fn.j0 k true l0_0 l0_1 ((rd_T56 l0_1 a1).f0) ((rd_T56 l0_1 a1).f1) ((rd_T56 l0_1 a1).f2) ((rd_T56 l0_1 a1).f3) ((rd_T56 l0_1 a1).f4)))) else (none)) else (none)) = some r := h; clear h
 by_cases c3 : 0 ≤ a1
 rotate_left; · rw [if_neg c3] at H; exact absurd H (by simp)

 rw [if_pos c3] at H; have c3b0 := decide_eq_true c3; clear c3; replace H := ia H; obtain ⟨c4b0, H⟩ := H; have HC5 := As.mk H; clear H; go_enter Tryz.func77, Tryz.ntmps77
 go_upto_region 2 with (first | ((with_reducible refine gate_dst (N := 2) rfl ?_); (try (refine gate_guard (by rfl) ?_; dsimp only)); refine bxe 2 #[.slice A0_0 l0_0.length c0_0, .slice A0_1 l0_1.length c0_1] 32 ?_; intro gb260 hg w6 BK260 hb; have GW260 := As.mk (gs w hg); replace HB := bs w hb; clear hb hg; obtain ⟨y7a, y7b, v7a, v7b⟩ := cl2 BK260.out; obtain ⟨ad261, A261_1, c261_1, e261, p261, q261, x261a, x261b, x261c, x261d, x261e, HC261_1, HR261_1⟩ := bt_T56 HB.out HR0_1.out a1 od od; cases e261) | ((with_reducible refine gate_dst (N := 5) rfl ?_); (try (refine gate_guard (by rfl) ?_; dsimp only)); refine bxe 5 #[.string (⟨#[]⟩ : ByteArray), .slice none 0 0, .int .i64 0, .int .i64 0, .int .i64 0] 56 ?_; intro gb262 hg w8 BK262 hb; have GW262 := As.mk (gs w hg); replace HB := bs w hb; have NB260_262 := As.mk (nl hg (bx BK260.out)); have NB262_260 := As.mk (ng hg (bx BK260.out)); replace BK260 := bb BK260 hb; clear hb hg; have hnb9 := NB262_260.out; have hnc9 := NB260_262.out; obtain ⟨y10a, y10b, y10c, y10d, y10e, v10a, v10b, v10c, v10d, v10e⟩ := cl5 BK262.out))
 (try simp only [pk])
 go_cut [35] (fun v35 wc => ∃ (kq : Nat) (x35_4 : Bool), v35 = .bool x35_4 ∧ As (spec_l04Fn.j0 kq x35_4 l0_0 l0_1 ((rd_T56 l0_1 a1).f0) ((rd_T56 l0_1 a1).f1) ((rd_T56 l0_1 a1).f2) ((rd_T56 l0_1 a1).f3) ((rd_T56 l0_1 a1).f4) = some r) ∧ As (kq ≤ k) ∧ As (wc.heap[gb260]? = some (.cells #[(.slice A0_0 l0_0.length c0_0), (.slice (some ad261) l0_1.length c0_1)] 32 (0, 0))) ∧ As (wc.heap[gb262]? = some (.cells #[.string ((rd_T56 l0_1 a1).f0), (.slice A261_1 ((rd_T56 l0_1 a1).f1).length c261_1), .int .i64 ((rd_T56 l0_1 a1).f2), .int .i64 ((rd_T56 l0_1 a1).f3), .int .i64 ((rd_T56 l0_1 a1).f4)] 56 (0, 0))) ∧ As (Below w.heap.size w wc))
 case first =>
  have H := HC5.out; clear HC5; replace H := bo H; obtain ⟨t263, A11, H⟩ := H
  by_cases c12 : t263 = true
  rotate_left
  ·
   replace c12 := Bool.eq_false_iff.mpr c12; subst c12; rw [if_neg ft] at H; have H' := As.mk H; clear H; have hnb37 := NB262_260.out; have hnc37 := NB260_262.out; obtain ⟨y38a, y38b, y38c, y38d, y38e, v38a, v38b, v38c, v38d, v38e⟩ := cl5 BK262.out
   go_wp2_with (first | ((with_reducible refine gate_callee (f := 103) rfl ?_); refine goL (some 14) Tryz.func103 #[.string ((rd_T56 l0_1 a1).f0)] ?_; (with_reducible refine (spec_NameOk.calls k ((rd_T56 l0_1 a1).f0) false _ A11.out).mono ?_); rintro e w39 ⟨rfl, hb⟩; refine ⟨_, rfl, ?_⟩; replace BK260 := As.mk (blk_below (g := gb260) (o := .cells #[.slice A0_0 l0_0.length c0_0, .slice (some ad261) l0_1.length c0_1] 32 (0, 0)) (by refine pl ?_; refine blk_far ?_ NB260_262.out _; refine pl ?_; refine blk_far ?_ NB260_262.out _; refine pl ?_; refine blk_far ?_ NB260_262.out _; refine pl ?_; refine blk_far ?_ NB260_262.out _; refine pl ?_; refine blk_far ?_ NB260_262.out _; exact bx BK260.out) hb); replace BK262 := As.mk (blk_below (g := gb262) (o := .cells #[.string ((rd_T56 l0_1 a1).f0), .slice A261_1 ((rd_T56 l0_1 a1).f1).length c261_1, .int .i64 ((rd_T56 l0_1 a1).f2), .int .i64 ((rd_T56 l0_1 a1).f3), .int .i64 ((rd_T56 l0_1 a1).f4)] 56 (0, 0)) (by exact pl (bp5 (bx BK262.out))) hb); replace HB := bs w hb; (try clear hb)))
   go_meet
   case rel => exact ⟨_, (true), (by first | rfl | (simp; done) | (simp [*]; done)), H', ⟨by first | omega | exact Nat.le_refl _⟩, ⟨bx BK260.out⟩, ⟨bx BK262.out⟩, ⟨be w⟩⟩
  subst c12; rw [if_pos rfl] at H; replace H := bo H; obtain ⟨t264, A13, H⟩ := H
  by_cases c14 : t264 = a1
  rotate_left
  ·
   rw [if_neg c14] at H; have c14b0 : (t264 == a1) = false := beq_eq_false_iff_ne.mpr c14; have c14b1 : (t264 != a1) = true := bne_iff_ne.mpr c14
   (first | rw [c14b0] | (simp only [i64_w, i32_w]; rw [c14b0]) | skip)
   have H' := As.mk H; clear H; have hnb31 := NB262_260.out; have hnc31 := NB260_262.out; obtain ⟨y32a, y32b, y32c, y32d, y32e, v32a, v32b, v32c, v32d, v32e⟩ := cl5 BK262.out
   go_wp2_with (first | ((with_reducible refine gate_callee (f := 103) rfl ?_); refine goL (some 14) Tryz.func103 #[.string ((rd_T56 l0_1 a1).f0)] ?_; (with_reducible refine (spec_NameOk.calls k ((rd_T56 l0_1 a1).f0) true _ A11.out).mono ?_); rintro e w33 ⟨rfl, hb⟩; refine ⟨_, rfl, ?_⟩; replace BK260 := As.mk (blk_below (g := gb260) (o := .cells #[.slice A0_0 l0_0.length c0_0, .slice (some ad261) l0_1.length c0_1] 32 (0, 0)) (by refine pl ?_; refine blk_far ?_ NB260_262.out _; refine pl ?_; refine blk_far ?_ NB260_262.out _; refine pl ?_; refine blk_far ?_ NB260_262.out _; refine pl ?_; refine blk_far ?_ NB260_262.out _; refine pl ?_; refine blk_far ?_ NB260_262.out _; exact bx BK260.out) hb); replace BK262 := As.mk (blk_below (g := gb262) (o := .cells #[.string ((rd_T56 l0_1 a1).f0), .slice A261_1 ((rd_T56 l0_1 a1).f1).length c261_1, .int .i64 ((rd_T56 l0_1 a1).f2), .int .i64 ((rd_T56 l0_1 a1).f3), .int .i64 ((rd_T56 l0_1 a1).f4)] 56 (0, 0)) (by exact pl (bp5 (bx BK262.out))) hb); replace HB := bs w hb; (try clear hb); obtain ⟨y34a, y34b, v34a, v34b⟩ := cl2 BK260.out; obtain ⟨y35a, y35b, y35c, y35d, y35e, v35a, v35b, v35c, v35d, v35e⟩ := cl5 BK262.out) | (go_at_call 104; (with_reducible refine (spec_FnAt.calls k _ _ l0_0 _ _ l0_1 ((rd_T56 l0_1 a1).f0) t264 _ (cb HR0_0) HC0_0.out (cb HR0_1) HC0_1.out A13.out).mono ?_); rintro e w36 ⟨rfl, hb⟩; replace BK260 := bb BK260 hb; replace BK262 := bb BK262 hb; replace HB := bs w hb; (try clear hb)))
   go_meet
   case rel => exact ⟨_, (true), (by first | rfl | (simp; done) | (simp [*]; done)), H', ⟨by first | omega | exact Nat.le_refl _⟩, ⟨bx BK260.out⟩, ⟨bx BK262.out⟩, ⟨be w⟩⟩
  rw [if_pos c14] at H; have c14b0 : (t264 == a1) = true := beq_iff_eq.mpr c14; have c14b1 : (t264 != a1) = false := bne_eq_false_iff_eq.mpr c14; clear c14
  (first | rw [c14b0] | (simp only [i64_w, i32_w]; rw [c14b0]) | skip)
  by_cases c15 : (((rd_T56 l0_1 a1).f1).length : Int) > 3
  ·
   rw [if_pos c15] at H; have c15b0 : decide (3 < (((rd_T56 l0_1 a1).f1).length : Int)) = true := decide_eq_true c15; have c15b1 : decide (3 < ((rd_T56 l0_1 a1).f1).length) = true := decide_eq_true (by omega); clear c15; have H' := As.mk H; clear H; have hnb16 := NB262_260.out; have hnc16 := NB260_262.out; obtain ⟨y17a, y17b, y17c, y17d, y17e, v17a, v17b, v17c, v17d, v17e⟩ := cl5 BK262.out
   go_wp2_with (first | ((with_reducible refine gate_callee (f := 103) rfl ?_); refine goL (some 14) Tryz.func103 #[.string ((rd_T56 l0_1 a1).f0)] ?_; (with_reducible refine (spec_NameOk.calls k ((rd_T56 l0_1 a1).f0) true _ A11.out).mono ?_); rintro e w18 ⟨rfl, hb⟩; refine ⟨_, rfl, ?_⟩; replace BK260 := As.mk (blk_below (g := gb260) (o := .cells #[.slice A0_0 l0_0.length c0_0, .slice (some ad261) l0_1.length c0_1] 32 (0, 0)) (by refine pl ?_; refine blk_far ?_ NB260_262.out _; refine pl ?_; refine blk_far ?_ NB260_262.out _; refine pl ?_; refine blk_far ?_ NB260_262.out _; refine pl ?_; refine blk_far ?_ NB260_262.out _; refine pl ?_; refine blk_far ?_ NB260_262.out _; exact bx BK260.out) hb); replace BK262 := As.mk (blk_below (g := gb262) (o := .cells #[.string ((rd_T56 l0_1 a1).f0), .slice A261_1 ((rd_T56 l0_1 a1).f1).length c261_1, .int .i64 ((rd_T56 l0_1 a1).f2), .int .i64 ((rd_T56 l0_1 a1).f3), .int .i64 ((rd_T56 l0_1 a1).f4)] 56 (0, 0)) (by exact pl (bp5 (bx BK262.out))) hb); replace HB := bs w hb; (try clear hb); obtain ⟨y19a, y19b, v19a, v19b⟩ := cl2 BK260.out; obtain ⟨y20a, y20b, y20c, y20d, y20e, v20a, v20b, v20c, v20d, v20e⟩ := cl5 BK262.out) | (go_at_call 104; (with_reducible refine (spec_FnAt.calls k _ _ l0_0 _ _ l0_1 ((rd_T56 l0_1 a1).f0) t264 _ (cb HR0_0) HC0_0.out (cb HR0_1) HC0_1.out A13.out).mono ?_); rintro e w21 ⟨rfl, hb⟩; replace BK260 := bb BK260 hb; replace BK262 := bb BK262 hb; replace HB := bs w hb; (try clear hb); obtain ⟨y22a, y22b, y22c, y22d, y22e, v22a, v22b, v22c, v22d, v22e⟩ := cl5 BK262.out))
   go_meet
   case rel => exact ⟨_, (true), (by first | rfl | (simp; done) | (simp [*]; done)), H', ⟨by first | omega | exact Nat.le_refl _⟩, ⟨bx BK260.out⟩, ⟨bx BK262.out⟩, ⟨be w⟩⟩
  rw [if_neg c15] at H; have c15b0 : decide (3 < (((rd_T56 l0_1 a1).f1).length : Int)) = false := decide_eq_false c15; have c15b1 : decide (3 < ((rd_T56 l0_1 a1).f1).length) = false := decide_eq_false (by omega); clear c15; replace H := bo H; obtain ⟨t265, A23, H⟩ := H; have H' := As.mk H; clear H; have hnb24 := NB262_260.out; have hnc24 := NB260_262.out; obtain ⟨y25a, y25b, y25c, y25d, y25e, v25a, v25b, v25c, v25d, v25e⟩ := cl5 BK262.out
  go_wp2_with (first | ((with_reducible refine gate_callee (f := 103) rfl ?_); refine goL (some 14) Tryz.func103 #[.string ((rd_T56 l0_1 a1).f0)] ?_; (with_reducible refine (spec_NameOk.calls k ((rd_T56 l0_1 a1).f0) true _ A11.out).mono ?_); rintro e w26 ⟨rfl, hb⟩; refine ⟨_, rfl, ?_⟩; replace BK260 := As.mk (blk_below (g := gb260) (o := .cells #[.slice A0_0 l0_0.length c0_0, .slice (some ad261) l0_1.length c0_1] 32 (0, 0)) (by refine pl ?_; refine blk_far ?_ NB260_262.out _; refine pl ?_; refine blk_far ?_ NB260_262.out _; refine pl ?_; refine blk_far ?_ NB260_262.out _; refine pl ?_; refine blk_far ?_ NB260_262.out _; refine pl ?_; refine blk_far ?_ NB260_262.out _; exact bx BK260.out) hb); replace BK262 := As.mk (blk_below (g := gb262) (o := .cells #[.string ((rd_T56 l0_1 a1).f0), .slice A261_1 ((rd_T56 l0_1 a1).f1).length c261_1, .int .i64 ((rd_T56 l0_1 a1).f2), .int .i64 ((rd_T56 l0_1 a1).f3), .int .i64 ((rd_T56 l0_1 a1).f4)] 56 (0, 0)) (by exact pl (bp5 (bx BK262.out))) hb); replace HB := bs w hb; (try clear hb); obtain ⟨y27a, y27b, v27a, v27b⟩ := cl2 BK260.out; obtain ⟨y28a, y28b, y28c, y28d, y28e, v28a, v28b, v28c, v28d, v28e⟩ := cl5 BK262.out) | (go_at_call 104; (with_reducible refine (spec_FnAt.calls k _ _ l0_0 _ _ l0_1 ((rd_T56 l0_1 a1).f0) t264 _ (cb HR0_0) HC0_0.out (cb HR0_1) HC0_1.out A13.out).mono ?_); rintro e w29 ⟨rfl, hb⟩; replace BK260 := bb BK260 hb; replace BK262 := bb BK262 hb; replace HB := bs w hb; (try clear hb); obtain ⟨y30a, y30b, y30c, y30d, y30e, v30a, v30b, v30c, v30d, v30e⟩ := cl5 BK262.out) | (go_at_call 33; (with_reducible refine (spec_l01In.calls ((rd_T56 l0_1 a1).f2) 0 2 t265 _ A23.out).mono ?_); rintro e w' ⟨rfl, ⟨nd, rfl⟩⟩))
  go_meet
  case rel => exact ⟨_, (!t265), (by first | rfl | (simp; done) | (simp [*]; done)), H', ⟨by first | omega | exact Nat.le_refl _⟩, ⟨bx BK260.out⟩, ⟨bx BK262.out⟩, ⟨be w⟩⟩
 case rest =>
  clear HC5; (try clear c3); (try clear c3b0); (try clear c4); (try clear c4b0); (try clear y10a); (try clear y10b); (try clear y10c); (try clear y10d); (try clear y10e); (try clear y7a); (try clear y7b); (try clear v10a); (try clear v10b); (try clear v10c); (try clear v10d); (try clear v10e); (try clear v7a); (try clear v7b); (try clear x261a); (try clear x261b); (try clear x261c); (try clear x261d); (try clear x261e); (try clear p261); (try clear q261); obtain ⟨kq, x35_4, rfl, HA, HJ4, BK260, BK262, HB⟩ := hcut
  cases kq with
  | zero => exact absurd HA.out (by simp [spec_l04Fn.j0])
  | succ kj4 =>
   have H := HA.out; clear HA
   simp only [spec_l04Fn.j0] at H
   by_cases c40 : x35_4 = true
   ·
    subst c40; rw [if_pos rfl] at H; obtain rfl := sj H
    go_wp2
    go_ret
    exact ⟨ez, be w⟩
   replace c40 := Bool.eq_false_iff.mpr c40; subst c40; rw [if_neg ft] at H; have H' := As.mk H; clear H
   go_wp2
   go_loopg [6] kj4 (fun kq v6 w' => ∃ (x6_2 : Int), v6 = .int .i64 x6_2 ∧ As (spec_l04Fn.l0 kq x6_2 l0_0 l0_1 ((rd_T56 l0_1 a1).f0) ((rd_T56 l0_1 a1).f1) ((rd_T56 l0_1 a1).f2) ((rd_T56 l0_1 a1).f3) ((rd_T56 l0_1 a1).f4) = some r) ∧ As (kq ≤ kj4) ∧ As (w'.heap[gb260]? = some (.cells #[(.slice A0_0 l0_0.length c0_0), (.slice (some ad261) l0_1.length c0_1)] 32 (0, 0))) ∧ As (w'.heap[gb262]? = some (.cells #[.string ((rd_T56 l0_1 a1).f0), (.slice A261_1 ((rd_T56 l0_1 a1).f1).length c261_1), .int .i64 ((rd_T56 l0_1 a1).f2), .int .i64 ((rd_T56 l0_1 a1).f3), .int .i64 ((rd_T56 l0_1 a1).f4)] 56 (0, 0))) ∧ As (Below w.heap.size w w'))
   case atStart => exact ⟨(0), (by first | rfl | (simp; done) | (simp [*]; done)), H', ⟨Nat.le_refl _⟩, ⟨bx BK260.out⟩, ⟨bx BK262.out⟩, ⟨be w⟩⟩
   case round =>
    clear H'; (try clear c3); (try clear c3b0); (try clear c4); (try clear c4b0); (try clear c40); (try clear y10a); (try clear y10b); (try clear y10c); (try clear y10d); (try clear y10e); (try clear y7a); (try clear y7b); (try clear v10a); (try clear v10b); (try clear v10c); (try clear v10d); (try clear v10e); (try clear v7a); (try clear v7b); (try clear x261a); (try clear x261b); (try clear x261c); (try clear x261d); (try clear x261e); (try clear p261); (try clear q261); obtain ⟨x6_2, rfl, HA, HK2, BK260, BK262, HB⟩ := hrel
    cases gk with
    | zero => exact absurd HA.out (by simp [spec_l04Fn.l0])
    | succ k2 =>
     have H := HA.out; clear HA
     simp only [spec_l04Fn.l0] at H
     by_cases c41 : x6_2 < (((rd_T56 l0_1 a1).f1).length : Int)
     ·
      rw [if_pos c41] at H; have c41b0 := decide_eq_true c41; clear c41; replace H := ia H; obtain ⟨c42b0, H⟩ := H; replace H := bo H; obtain ⟨t267, A43, H⟩ := H
      by_cases c44 : t267 = true
      rotate_left
      ·
       replace c44 := Bool.eq_false_iff.mpr c44; subst c44; rw [if_neg ft] at H; obtain rfl := sj H; obtain ⟨y54a, y54b, y54c, y54d, y54e, v54a, v54b, v54c, v54d, v54e⟩ := cl5 BK262.out; obtain ⟨ad266, e266, p266, q266, x266a, x266b⟩ := bt_T58 HB.out HR261_1.out x6_2 od od; cases e266
       go_wp2_with (first | ((with_reducible refine gate_callee (f := 103) rfl ?_); refine goL (some 49) Tryz.func103 #[.string ((rd_T58 ((rd_T56 l0_1 a1).f1) x6_2).f0)] ?_; (with_reducible refine (spec_NameOk.calls k2 ((rd_T58 ((rd_T56 l0_1 a1).f1) x6_2).f0) false _ A43.out).mono ?_); rintro e w55 ⟨rfl, hb⟩; refine ⟨_, rfl, ?_⟩; replace HB := bs w hb; (try clear hb)))
       go_ret
       exact ⟨ez, be w⟩
      subst c44; rw [if_pos rfl] at H; replace H := bo H; obtain ⟨t269, A45, H⟩ := H
      by_cases c46 : t269 = true
      rotate_left
      ·
       replace c46 := Bool.eq_false_iff.mpr c46; subst c46; rw [if_neg ft] at H; obtain rfl := sj H; obtain ⟨y51a, y51b, y51c, y51d, y51e, v51a, v51b, v51c, v51d, v51e⟩ := cl5 BK262.out; obtain ⟨ad266, e266, p266, q266, x266a, x266b⟩ := bt_T58 HB.out HR261_1.out x6_2 od od; cases e266
       go_wp2_with (first | ((with_reducible refine gate_callee (f := 103) rfl ?_); refine goL (some 49) Tryz.func103 #[.string ((rd_T58 ((rd_T56 l0_1 a1).f1) x6_2).f0)] ?_; (with_reducible refine (spec_NameOk.calls k2 ((rd_T58 ((rd_T56 l0_1 a1).f1) x6_2).f0) true _ A43.out).mono ?_); rintro e w52 ⟨rfl, hb⟩; refine ⟨_, rfl, ?_⟩; replace BK262 := bb BK262 hb; replace HB := bs w hb; (try clear hb); obtain ⟨y53a, y53b, y53c, y53d, y53e, v53a, v53b, v53c, v53d, v53e⟩ := cl5 BK262.out; have p268 : 0 ≤ (x6_2 : Int) := od; have q268 : x6_2 < (((rd_T56 l0_1 a1).f1).length : Int) := od; obtain ⟨ad268, e268, x268a, x268b⟩ := at_T58 HR261_1.out x6_2 p268 q268; obtain rfl : ad266 = ad268 := (by injection e268); replace x268a := ce HB.out x268a; replace x268b := ce HB.out x268b; replace p268 := eq_true p268; replace q268 := eq_true q268) | (go_at_call 33; (with_reducible refine (spec_l01In.calls ((rd_T58 ((rd_T56 l0_1 a1).f1) x6_2).f1) 1 4 false _ A45.out).mono ?_); rintro e w' ⟨rfl, ⟨nd, rfl⟩⟩))
       go_ret
       exact ⟨ez, be w⟩
      subst c46; rw [if_pos rfl] at H; have H' := As.mk H; clear H; have hnb47 := NB262_260.out; have hnc47 := NB260_262.out; obtain ⟨y48a, y48b, y48c, y48d, y48e, v48a, v48b, v48c, v48d, v48e⟩ := cl5 BK262.out; obtain ⟨ad266, e266, p266, q266, x266a, x266b⟩ := bt_T58 HB.out HR261_1.out x6_2 od od; cases e266
      go_wp2_with (first | ((with_reducible refine gate_callee (f := 103) rfl ?_); refine goL (some 49) Tryz.func103 #[.string ((rd_T58 ((rd_T56 l0_1 a1).f1) x6_2).f0)] ?_; (with_reducible refine (spec_NameOk.calls k2 ((rd_T58 ((rd_T56 l0_1 a1).f1) x6_2).f0) true _ A43.out).mono ?_); rintro e w49 ⟨rfl, hb⟩; refine ⟨_, rfl, ?_⟩; replace BK260 := bb BK260 hb; replace BK262 := bb BK262 hb; replace HB := bs w hb; (try clear hb); obtain ⟨y50a, y50b, y50c, y50d, y50e, v50a, v50b, v50c, v50d, v50e⟩ := cl5 BK262.out; have p268 : 0 ≤ (x6_2 : Int) := od; have q268 : x6_2 < (((rd_T56 l0_1 a1).f1).length : Int) := od; obtain ⟨ad268, e268, x268a, x268b⟩ := at_T58 HR261_1.out x6_2 p268 q268; obtain rfl : ad266 = ad268 := (by injection e268); replace x268a := ce HB.out x268a; replace x268b := ce HB.out x268b; replace p268 := eq_true p268; replace q268 := eq_true q268) | (go_at_call 33; (with_reducible refine (spec_l01In.calls ((rd_T58 ((rd_T56 l0_1 a1).f1) x6_2).f1) 1 4 true _ A45.out).mono ?_); rintro e w' ⟨rfl, ⟨nd, rfl⟩⟩))
      go_roundg k2
      case measure => have := HJ4.out; have := HK2.out; omega
      case rel => exact ⟨(wrap64 (x6_2 + 1)), (by first | rfl | (simp; done) | (simp [*]; done)), H', ⟨by have := HJ4.out; have := HK2.out; omega⟩, ⟨bx BK260.out⟩, ⟨bx BK262.out⟩, ⟨be w⟩⟩
     rw [if_neg c41] at H; have c41b0 := decide_eq_false c41; clear c41; have HC56 := As.mk H; clear H; have hnb57 := NB262_260.out; have hnc57 := NB260_262.out; obtain ⟨y58a, y58b, y58c, y58d, y58e, v58a, v58b, v58c, v58d, v58e⟩ := cl5 BK262.out
     go_upto_region 9 with (fail)
     go_cut [78] (fun v78 wc => ∃ (kq : Nat) (x78_55 : Bool), v78 = .bool x78_55 ∧ As (spec_l04Fn.j2 kq x78_55 l0_0 l0_1 ((rd_T56 l0_1 a1).f0) ((rd_T56 l0_1 a1).f1) ((rd_T56 l0_1 a1).f2) ((rd_T56 l0_1 a1).f3) ((rd_T56 l0_1 a1).f4) = some r) ∧ As (kq ≤ k2) ∧ As (wc.heap[gb260]? = some (.cells #[(.slice A0_0 l0_0.length c0_0), (.slice (some ad261) l0_1.length c0_1)] 32 (0, 0))) ∧ As (wc.heap[gb262]? = some (.cells #[.string ((rd_T56 l0_1 a1).f0), (.slice A261_1 ((rd_T56 l0_1 a1).f1).length c261_1), .int .i64 ((rd_T56 l0_1 a1).f2), .int .i64 ((rd_T56 l0_1 a1).f3), .int .i64 ((rd_T56 l0_1 a1).f4)] 56 (0, 0))) ∧ As (Below w.heap.size w wc))
     case first =>
      have H := HC56.out; clear HC56; replace H := bo H; obtain ⟨t270, A59, H⟩ := H
      by_cases c60 : t270 = true
      rotate_left
      ·
       replace c60 := Bool.eq_false_iff.mpr c60; subst c60; rw [if_neg ft] at H; have H' := As.mk H; clear H; have hnb66 := NB262_260.out; have hnc66 := NB260_262.out; obtain ⟨y67a, y67b, y67c, y67d, y67e, v67a, v67b, v67c, v67d, v67e⟩ := cl5 BK262.out; obtain ⟨y68a, y68b, v68a, v68b⟩ := cl2 BK260.out
       go_wp2_with (first | ((with_reducible refine gate_callee (f := 33) rfl ?_); refine goL (some 67) Tryz.func33 #[.int .i64 ((rd_T56 l0_1 a1).f3), .int .i64 0, .int .i64 (wrap64 ((l0_0.length : Int) - 1))] ?_; (with_reducible refine (spec_l01In.calls ((rd_T56 l0_1 a1).f3) 0 (wrap64 ((l0_0.length : Int) - 1)) false _ A59.out).mono ?_); rintro e w' ⟨rfl, ⟨nd, rfl⟩⟩; refine ⟨_, rfl, ?_⟩))
       go_meet
       case rel => exact ⟨_, (true), (by first | rfl | (simp; done) | (simp [*]; done)), H', ⟨by have := HJ4.out; have := HK2.out; first | omega | exact Nat.le_refl _⟩, ⟨bx BK260.out⟩, ⟨bx BK262.out⟩, ⟨be w⟩⟩
      subst c60; rw [if_pos rfl] at H; replace H := ia H; obtain ⟨c61b0, H⟩ := H
      (first | rw [c61b0] | (simp only [i64_w, i32_w]; rw [c61b0]) | skip)
      replace H := ia H; obtain ⟨c62b0, H⟩ := H; have H' := As.mk H; clear H; have hnb63 := NB262_260.out; have hnc63 := NB260_262.out; obtain ⟨y64a, y64b, y64c, y64d, y64e, v64a, v64b, v64c, v64d, v64e⟩ := cl5 BK262.out; obtain ⟨y65a, y65b, v65a, v65b⟩ := cl2 BK260.out
      go_wp2_with (first | ((with_reducible refine gate_callee (f := 33) rfl ?_); refine goL (some 67) Tryz.func33 #[.int .i64 ((rd_T56 l0_1 a1).f3), .int .i64 0, .int .i64 (wrap64 ((l0_0.length : Int) - 1))] ?_; (with_reducible refine (spec_l01In.calls ((rd_T56 l0_1 a1).f3) 0 (wrap64 ((l0_0.length : Int) - 1)) true _ A59.out).mono ?_); rintro e w' ⟨rfl, ⟨nd, rfl⟩⟩; refine ⟨_, rfl, ?_⟩; obtain ⟨ad271, A271_3, c271_3, e271, p271, q271, x271a, x271b, x271c, x271d, HC271_3, HR271_3⟩ := bt_T62 HB.out HR0_0.out ((rd_T56 l0_1 a1).f3) od od; cases e271))
      go_meet
      case rel => exact ⟨_, ((((rd_T62 l0_0 ((rd_T56 l0_1 a1).f3)).f0) != 20)), (by first | rfl | (simp; done) | (simp [*]; done)), H', ⟨by have := HJ4.out; have := HK2.out; first | omega | exact Nat.le_refl _⟩, ⟨bx BK260.out⟩, ⟨bx BK262.out⟩, ⟨be w⟩⟩
     case rest =>
      clear HC56; (try clear c3); (try clear c3b0); (try clear c4); (try clear c4b0); (try clear c40); (try clear c41); (try clear c41b0); (try clear y10a); (try clear y10b); (try clear y10c); (try clear y10d); (try clear y10e); (try clear y58a); (try clear y58b); (try clear y58c); (try clear y58d); (try clear y58e); (try clear y7a); (try clear y7b); (try clear v10a); (try clear v10b); (try clear v10c); (try clear v10d); (try clear v10e); (try clear v58a); (try clear v58b); (try clear v58c); (try clear v58d); (try clear v58e); (try clear v7a); (try clear v7b); (try clear x261a); (try clear x261b); (try clear x261c); (try clear x261d); (try clear x261e); (try clear p261); (try clear q261); obtain ⟨kq, x78_55, rfl, HA, HJ55, BK260, BK262, HB⟩ := hcut
      cases kq with
      | zero => exact absurd HA.out (by simp [spec_l04Fn.j2])
      | succ kj55 =>
       have H := HA.out; clear HA
       simp only [spec_l04Fn.j2] at H
       by_cases c69 : x78_55 = true
       ·
        subst c69; rw [if_pos rfl] at H; obtain rfl := sj H
        go_wp2
        go_ret
        exact ⟨ez, be w⟩
       replace c69 := Bool.eq_false_iff.mpr c69; subst c69; rw [if_neg ft] at H
       by_cases c70 : ((rd_T56 l0_1 a1).f2) = 0
       ·
        rw [if_pos c70] at H; have c70b0 : (((rd_T56 l0_1 a1).f2) == 0) = true := beq_iff_eq.mpr c70; have c70b1 : (((rd_T56 l0_1 a1).f2) != 0) = false := bne_eq_false_iff_eq.mpr c70; clear c70; obtain rfl := sj H; obtain ⟨y71a, y71b, y71c, y71d, y71e, v71a, v71b, v71c, v71d, v71e⟩ := cl5 BK262.out
        go_wp2
        go_ret
        exact ⟨ez, be w⟩
       rw [if_neg c70] at H; have c70b0 : (((rd_T56 l0_1 a1).f2) == 0) = false := beq_eq_false_iff_ne.mpr c70; have c70b1 : (((rd_T56 l0_1 a1).f2) != 0) = true := bne_iff_ne.mpr c70; replace H := bo H; obtain ⟨t272, A72, H⟩ := H
       by_cases c73 : t272 = true
       rotate_left
       ·
        replace c73 := Bool.eq_false_iff.mpr c73; subst c73; rw [if_neg ft] at H; obtain rfl := sj H; have hnb80 := NB262_260.out; have hnc80 := NB260_262.out; obtain ⟨y81a, y81b, y81c, y81d, y81e, v81a, v81b, v81c, v81d, v81e⟩ := cl5 BK262.out; obtain ⟨y82a, y82b, v82a, v82b⟩ := cl2 BK260.out
        go_wp2_with (first | ((with_reducible refine gate_callee (f := 33) rfl ?_); refine goL (some 91) Tryz.func33 #[.int .i64 ((rd_T56 l0_1 a1).f4), .int .i64 0, .int .i64 (wrap64 ((l0_0.length : Int) - 1))] ?_; (with_reducible refine (spec_l01In.calls ((rd_T56 l0_1 a1).f4) 0 (wrap64 ((l0_0.length : Int) - 1)) false _ A72.out).mono ?_); rintro e w' ⟨rfl, ⟨nd, rfl⟩⟩; refine ⟨_, rfl, ?_⟩))
        go_ret
        exact ⟨ez, be w⟩
       subst c73; rw [if_pos rfl] at H; replace H := ia H; obtain ⟨c74b0, H⟩ := H; replace H := ia H; obtain ⟨c75b0, H⟩ := H; replace H := bo H; obtain ⟨t274, A76, H⟩ := H; obtain rfl := sj H; have hnb77 := NB262_260.out; have hnc77 := NB260_262.out; obtain ⟨y78a, y78b, y78c, y78d, y78e, v78a, v78b, v78c, v78d, v78e⟩ := cl5 BK262.out; obtain ⟨y79a, y79b, v79a, v79b⟩ := cl2 BK260.out
       go_wp2_with (first | ((with_reducible refine gate_callee (f := 33) rfl ?_); refine goL (some 91) Tryz.func33 #[.int .i64 ((rd_T56 l0_1 a1).f4), .int .i64 0, .int .i64 (wrap64 ((l0_0.length : Int) - 1))] ?_; (with_reducible refine (spec_l01In.calls ((rd_T56 l0_1 a1).f4) 0 (wrap64 ((l0_0.length : Int) - 1)) true _ A72.out).mono ?_); rintro e w' ⟨rfl, ⟨nd, rfl⟩⟩; refine ⟨_, rfl, ?_⟩; obtain ⟨ad273, A273_3, c273_3, e273, p273, q273, x273a, x273b, x273c, x273d, HC273_3, HR273_3⟩ := bt_T62 HB.out HR0_0.out ((rd_T56 l0_1 a1).f4) od od; cases e273) | (go_at_call 55; (with_reducible refine (spec_l04Value.calls ((rd_T62 l0_0 ((rd_T56 l0_1 a1).f4)).f0) t274 _ A76.out).mono ?_); rintro e w' ⟨rfl, ⟨nd, rfl⟩⟩))
       go_ret
       exact ⟨ez, be w⟩
end Go.Proofs.YtcoapbnbakmkoaaGreatDoor.PFnExactShowProgram
