/- Written by a program of this session (a turned copy of the kit's print): a contract for each Go function. No condition beside those in each statement. -/
import Derived.Test.YtcoapbnbakmkoaaGreatDoorPFnExactShowProgramx0
import Derived.Test.YtcoapbnbakmkoaaGreatDoorPFnExactShowProgramx12
import Derived.Test.YtcoapbnbakmkoaaGreatDoorPFnExactShowProgramx13
namespace Go.Proofs.YtcoapbnbakmkoaaGreatDoor.PFnExactShowProgram
open Go.RowKit Go.Proofs.YtcoapbnbakmkoaaGreatDoor.Given Go.Proofs.YtcoapbnbakmkoaaGreatDoorW.PrintWords Go.Proofs.YtcoapbnbakmkoaaGreatDoorW.PrintLast Go.Proofs.YtcoapbnbakmkoaaGreatDoorW.PrintMore
attribute [local go_sem] max2_int min2_int max_two min_two max_three min_three max_four min_four   -- for this text's walks alone
set_option linter.unusedVariables false
set_option linter.unusedSimpArgs false

/-! ### impl_NodeOk: function 96 -/
mutual
def impl_NodeOk.j0 : Nat → List (S62) → Int → Bool → Int → Int → ByteArray → List Int → Option (Bool)
 | 0, _, _, _, _, _, _, _ => none
 | k + 1, x0, x1, x38, x384000, x384001, x384002, x384003 => if x38 = true then (some false) else (impl_NodeOk.l0 k x0 x1 x384003 (x384003.length : Int) 0 x384000 x384001 x384002 x384003)
def impl_NodeOk.l0 : Nat → List (S62) → Int → List Int → Int → Int → Int → Int → ByteArray → List Int → Option (Bool)
 | 0, _, _, _, _, _, _, _, _, _ => none
 | k + 1, x0, x1, x40, x41, x42, x384000, x384001, x384002, x384003 => if x42 < x41 then (if 0 ≤ x42 then (if x42 < (x40.length : Int) then ((impl_in.f (rd x40 x42) 0 (wrap64 (x1 - 1))).bind fun t389 => (if t389 = true then (if x42 ≤ (x384003.length : Int) then ((impl_hasInt.f k (x384003.take (x42 : Int).toNat) (rd x40 x42)).bind fun t391 => (if t391 = true then (some false) else (if 0 ≤ (rd x40 x42) then (if (rd x40 x42) < (x0.length : Int) then ((impl_kidFits.f k x384000 x42 ((rd_T62 x0 (rd x40 x42)).f0)).bind fun t393 => (if t393 = true then (impl_NodeOk.l0 k x0 x1 x40 x41 (wrap64 (x42 + 1)) x384000 x384001 x384002 x384003) else (some false))) else (none)) else (none)))) else (none)) else (some false))) else (none)) else (none)) else (if x384000 = 1 then ((impl_in.f x384001 0 1000000000).bind fun t394 => (if t394 = true then (impl_NodeOk.j2 k false x384000 x384001 x384002 x384003) else (impl_NodeOk.j2 k true x384000 x384001 x384002 x384003))) else (impl_NodeOk.j2 k (x384001 != 0) x384000 x384001 x384002 x384003))
def impl_NodeOk.j2 : Nat → Bool → Int → Int → ByteArray → List Int → Option (Bool)
 | 0, _, _, _, _, _ => none
 | k + 1, x91, x384000, x384001, x384002, x384003 => if x91 = true then (some false) else ((impl_hasName.f x384000).bind fun t395 => (if t395 = true then ((impl_NameOk.f k x384002).bind fun t396 => (some t396)) else (some (x384002.toList == ([] : List UInt8)))))
end
def impl_NodeOk.f (k : Nat) (l0 : List (S62)) (a1 : Int) : Option (Bool) := (impl_in.f a1 0 (wrap64 ((l0.length : Int) - 1))).bind fun t381 => (if t381 = true then (if 0 ≤ a1 then (if a1 < (l0.length : Int) then ((impl_shape.f k ((rd_T62 l0 a1).f0)).bind fun bt384 => ((impl_in.f ((rd_T62 l0 a1).f0) 1 20).bind fun t386 => (if t386 = true then ((impl_in.f (((rd_T62 l0 a1).f3).length : Int) bt384.1 bt384.2).bind fun t387 => (impl_NodeOk.j0 k l0 a1 (!t387) ((rd_T62 l0 a1).f0) ((rd_T62 l0 a1).f1) ((rd_T62 l0 a1).f2) ((rd_T62 l0 a1).f3))) else (impl_NodeOk.j0 k l0 a1 true ((rd_T62 l0 a1).f0) ((rd_T62 l0 a1).f1) ((rd_T62 l0 a1).f2) ((rd_T62 l0 a1).f3))))) else (none)) else (none)) else (some false))
theorem impl_NodeOk.mono_l : ∀ k, (∀ y0 y1 y2 y3 y4 y5 y6, LeO (impl_NodeOk.j0 k y0 y1 y2 y3 y4 y5 y6) (impl_NodeOk.j0 (k + 1) y0 y1 y2 y3 y4 y5 y6)) ∧ (∀ y0 y1 y2 y3 y4 y5 y6 y7 y8, LeO (impl_NodeOk.l0 k y0 y1 y2 y3 y4 y5 y6 y7 y8) (impl_NodeOk.l0 (k + 1) y0 y1 y2 y3 y4 y5 y6 y7 y8)) ∧ (∀ y0 y1 y2 y3 y4, LeO (impl_NodeOk.j2 k y0 y1 y2 y3 y4) (impl_NodeOk.j2 (k + 1) y0 y1 y2 y3 y4))
 | 0 => ⟨fun _ _ _ _ _ _ _ r h => by simp [impl_NodeOk.j0] at h, fun _ _ _ _ _ _ _ _ _ r h => by simp [impl_NodeOk.l0] at h, fun _ _ _ _ _ r h => by simp [impl_NodeOk.j2] at h⟩
 | k + 1 => by
  obtain ⟨ih0, ih1, ih2⟩ := impl_NodeOk.mono_l k
  refine ⟨?_, ?_, ?_⟩
  ·
   intro y0 y1 y2 y3 y4 y5 y6
   unfold impl_NodeOk.j0
   with_reducible repeat' first | exact ih0 _ _ _ _ _ _ _ | exact ih1 _ _ _ _ _ _ _ _ _ | exact ih2 _ _ _ _ _ | exact impl_NameOk.mono _ _ | exact impl_hasInt.mono _ _ _ | exact impl_kidFits.mono _ _ _ _ | exact impl_shape.mono _ _ | exact LeO.refl _ | exact LeO.none _ | refine LeO.ite ?_ ?_ | refine LeO.bind ?_ (fun _ => ?_)
  ·
   intro y0 y1 y2 y3 y4 y5 y6 y7 y8
   unfold impl_NodeOk.l0
   with_reducible repeat' first | exact ih0 _ _ _ _ _ _ _ | exact ih1 _ _ _ _ _ _ _ _ _ | exact ih2 _ _ _ _ _ | exact impl_NameOk.mono _ _ | exact impl_hasInt.mono _ _ _ | exact impl_kidFits.mono _ _ _ _ | exact impl_shape.mono _ _ | exact LeO.refl _ | exact LeO.none _ | refine LeO.ite ?_ ?_ | refine LeO.bind ?_ (fun _ => ?_)
  ·
   intro y0 y1 y2 y3 y4
   unfold impl_NodeOk.j2
   with_reducible repeat' first | exact ih0 _ _ _ _ _ _ _ | exact ih1 _ _ _ _ _ _ _ _ _ | exact ih2 _ _ _ _ _ | exact impl_NameOk.mono _ _ | exact impl_hasInt.mono _ _ _ | exact impl_kidFits.mono _ _ _ _ | exact impl_shape.mono _ _ | exact LeO.refl _ | exact LeO.none _ | refine LeO.ite ?_ ?_ | refine LeO.bind ?_ (fun _ => ?_)
theorem impl_NodeOk.mono : ∀ a0 a1 k, LeO (impl_NodeOk.f k a0 a1) (impl_NodeOk.f (k + 1) a0 a1) := by
 intro a0 a1 k; obtain ⟨ih0, ih1, ih2⟩ := impl_NodeOk.mono_l k
 unfold impl_NodeOk.f
 with_reducible repeat' first | exact ih0 _ _ _ _ _ _ _ | exact ih1 _ _ _ _ _ _ _ _ _ | exact ih2 _ _ _ _ _ | exact impl_NameOk.mono _ _ | exact impl_hasInt.mono _ _ _ | exact impl_kidFits.mono _ _ _ _ | exact impl_shape.mono _ _ | exact LeO.refl _ | exact LeO.none _ | refine LeO.ite ?_ ?_ | refine LeO.bind ?_ (fun _ => ?_)
def impl_NodeOk.T10 : Bool × List (List Nat × List Nat) := (true, [([], []), ([], []), ([1], [1]), ([0, 2], [0, 2]), ([3], [3]), ([4, 3], [4]), ([5], [5]), ([6, 5], [5, 6]), ([5], [5]), ([7, 8, 5], [5, 7, 8]), ([5], [5]), ([9, 10, 5, 5], [5, 9, 10]), ([5, 11], [5, 11]), ([12, 11], [12]), ([13], [13]), ([14, 13], [13, 14]), ([13], [13]), ([13], [13]), ([13], [13]), ([17, 18, 13], [13, 17, 18]), ([19, 13], [13, 19]), ([20, 13], [13, 20]), ([15, 16, 21, 13, 13], [13, 15, 16, 21]), ([22, 13], [13, 22]), ([13, 23], [13, 23])])
def impl_NodeOk.B10 : List Nat := [0, 0, 2, 7, 15, 31, 63, 127, 63, 511, 63, 2047, 4095, 8191, 16383, 32767, 16383, 16383, 16383, 409599, 933887, 1982463, 4194303, 8388607, 16777215]
theorem impl_NodeOk.tab10 : rtab .any (opsOf Tryz.f96 10) = impl_NodeOk.T10 := by kernel_rfl
theorem impl_NodeOk.bits10 : waitsOk impl_NodeOk.T10.2 impl_NodeOk.B10 = true := by kernel_rfl
set_option maxHeartbeats 8000000 in
set_option maxRecDepth 100000 in
theorem impl_NodeOk.calls (k : Nat) (A0 : Option Addr) (c0 : Nat) (l0 : List (S62)) (a1 : Int) (r : Bool) (w : World) (hr0 : Kd.C k62 w A0 l0.length l0) (hc0 : l0.length ≤ c0) (h : impl_NodeOk.f k l0 a1 = some r) :
  Calls Tryz.prog 96 #[.slice A0 l0.length c0, .int .i64 a1] w fun e w' => e = .returned (.bool r) ∧ Below w.heap.size w w' := by
 have hu62 := Tryz.underlying62; have HR0 := As.mk hr0; have HC0 := As.mk hc0; clear hr0 hc0; have HB := As.mk (Below.refl w.heap.size w); have H : ((impl_in.f a1 0 (wrap64 ((l0.length : Int) - 1))).bind fun t381 => (if t381 = true then (if 0 ≤ a1 then (if a1 < (l0.length : Int) then ((impl_shape.f k ((rd_T62 l0 a1).f0)).bind fun bt384 => ((impl_in.f ((rd_T62 l0 a1).f0) 1 20).bind fun t386 => (if t386 = true then ((impl_in.f (((rd_T62 l0 a1).f3).length : Int) bt384.1 bt384.2).bind fun t387 => (impl_NodeOk.j0 k l0 a1 (!t387) ((rd_T62 l0 a1).f0) ((rd_T62 l0 a1).f1) ((rd_T62 l0 a1).f2) ((rd_T62 l0 a1).f3))) else (impl_NodeOk.j0 k l0 a1 true ((rd_T62 l0 a1).f0) ((rd_T62 l0 a1).f1) ((rd_T62 l0 a1).f2) ((rd_T62 l0 a1).f3))))) else (none)) else (none)) else (some false))) = some r := h; clear h; replace H := bo H; obtain ⟨t381, A3, H⟩ := H
 by_cases c4 : t381 = true
 rotate_left
 ·
  replace c4 := Bool.eq_false_iff.mpr c4; subst c4; rw [if_neg ft] at H; obtain rfl := sj H; go_enter Tryz.func96, Tryz.ntmps96
  go_wp2_with (first | ((with_reducible refine gate_callee (f := 36) rfl ?_); refine goL (some 14) Tryz.func36 #[.int .i64 a1, .int .i64 0, .int .i64 (wrap64 ((l0.length : Int) - 1))] ?_; (with_reducible refine (impl_in.calls a1 0 (wrap64 ((l0.length : Int) - 1)) false _ A3.out).mono ?_); rintro e w' ⟨rfl, ⟨nd, rfl⟩⟩; refine ⟨_, rfl, ?_⟩))
  go_ret
  exact ⟨ez, be w⟩

 subst c4; rw [if_pos rfl] at H; replace H := ia H; obtain ⟨c5b0, H⟩ := H; replace H := ia H; obtain ⟨c6b0, H⟩ := H; replace H := bo H; obtain ⟨⟨t384, t385⟩, A7, H⟩ := H
 try dsimp only at H
 have HC8 := As.mk H; clear H; go_enter Tryz.func96, Tryz.ntmps96
 go_upto_region 5 with (first | ((with_reducible refine gate_callee (f := 36) rfl ?_); refine goL (some 14) Tryz.func36 #[.int .i64 a1, .int .i64 0, .int .i64 (wrap64 ((l0.length : Int) - 1))] ?_; (with_reducible refine (impl_in.calls a1 0 (wrap64 ((l0.length : Int) - 1)) true _ A3.out).mono ?_); rintro e w' ⟨rfl, ⟨nd, rfl⟩⟩; refine ⟨_, rfl, ?_⟩; obtain ⟨ad382, A382_3, c382_3, e382, p382, q382, x382a, x382b, x382c, x382d, HC382_3, HR382_3⟩ := bt_T62 (Below.refl _ _) HR0.out a1 od od; cases e382) | ((with_reducible refine gate_dst (N := 5) rfl ?_); (try (refine gate_guard (by rfl) ?_; dsimp only)); refine bxe 5 #[.int .i64 0, .int .i64 0, .string (⟨#[]⟩ : ByteArray), .slice none 0 0] 62 ?_; intro gb383 hg w9 BK383 hb; have GW383 := As.mk (gs w hg); replace HB := bs w hb; clear hb hg; obtain ⟨y10a, y10b, y10c, y10d, v10a, v10b, v10c, v10d⟩ := cl4 BK383.out) | ((with_reducible refine gate_callee (f := 116) rfl ?_); refine goL (some 23) Tryz.func116 #[.int .i64 ((rd_T62 l0 a1).f0)] ?_; (with_reducible refine (impl_shape.calls k ((rd_T62 l0 a1).f0) t384 t385 _ A7.out).mono ?_); rintro e w' ⟨rfl, ⟨nd, rfl⟩⟩; refine ⟨_, rfl, ?_⟩))
 (try simp only [pk])
 go_cut [38] (fun v38 wc => ∃ (kq : Nat) (x38_7 : Bool), v38 = .bool x38_7 ∧ As (impl_NodeOk.j0 kq l0 a1 x38_7 ((rd_T62 l0 a1).f0) ((rd_T62 l0 a1).f1) ((rd_T62 l0 a1).f2) ((rd_T62 l0 a1).f3) = some r) ∧ As (kq ≤ k) ∧ As (wc.heap[gb383]? = some (.cells #[.int .i64 ((rd_T62 l0 a1).f0), .int .i64 ((rd_T62 l0 a1).f1), .string ((rd_T62 l0 a1).f2), (.slice A382_3 ((rd_T62 l0 a1).f3).length c382_3)] 62 (0, 0))) ∧ As (Below w.heap.size w wc))
 case first =>
  have H := HC8.out; clear HC8; replace H := bo H; obtain ⟨t386, A11, H⟩ := H
  by_cases c12 : t386 = true
  rotate_left
  ·
   replace c12 := Bool.eq_false_iff.mpr c12; subst c12; rw [if_neg ft] at H; have H' := As.mk H; clear H; obtain ⟨y15a, y15b, y15c, y15d, v15a, v15b, v15c, v15d⟩ := cl4 BK383.out
   go_wp2_with (first | ((with_reducible refine gate_callee (f := 36) rfl ?_); refine goL (some 28) Tryz.func36 #[.int .i64 ((rd_T62 l0 a1).f0), .int .i64 1, .int .i64 20] ?_; (with_reducible refine (impl_in.calls ((rd_T62 l0 a1).f0) 1 20 false _ A11.out).mono ?_); rintro e w' ⟨rfl, ⟨nd, rfl⟩⟩; refine ⟨_, rfl, ?_⟩))
   go_meet
   case rel => exact ⟨_, (true), (by first | rfl | (simp; done) | (simp [*]; done)), H', ⟨by first | omega | exact Nat.le_refl _⟩, ⟨by exact pl (bp4 (bx BK383.out))⟩, ⟨be w⟩⟩
  subst c12; rw [if_pos rfl] at H; replace H := bo H; obtain ⟨t387, A13, H⟩ := H; have H' := As.mk H; clear H; obtain ⟨y14a, y14b, y14c, y14d, v14a, v14b, v14c, v14d⟩ := cl4 BK383.out
  go_wp2_with (first | ((with_reducible refine gate_callee (f := 36) rfl ?_); refine goL (some 28) Tryz.func36 #[.int .i64 ((rd_T62 l0 a1).f0), .int .i64 1, .int .i64 20] ?_; (with_reducible refine (impl_in.calls ((rd_T62 l0 a1).f0) 1 20 true _ A11.out).mono ?_); rintro e w' ⟨rfl, ⟨nd, rfl⟩⟩; refine ⟨_, rfl, ?_⟩) | (go_at_call 36; (with_reducible refine (impl_in.calls (((rd_T62 l0 a1).f3).length : Int) t384 t385 t387 _ A13.out).mono ?_); rintro e w' ⟨rfl, ⟨nd, rfl⟩⟩))
  go_meet
  case rel => exact ⟨_, (!t387), (by first | rfl | (simp; done) | (simp [*]; done)), H', ⟨by first | omega | exact Nat.le_refl _⟩, ⟨by exact pl (bp4 (bx BK383.out))⟩, ⟨be w⟩⟩
 case rest =>
  clear HC8; (try clear c4); (try clear c5); (try clear c5b0); (try clear c6); (try clear c6b0); (try clear y10a); (try clear y10b); (try clear y10c); (try clear y10d); (try clear v10a); (try clear v10b); (try clear v10c); (try clear v10d); (try clear x382a); (try clear x382b); (try clear x382c); (try clear x382d); (try clear p382); (try clear q382); obtain ⟨kq, x38_7, rfl, HA, HJ7, BK383, HB⟩ := hcut
  cases kq with
  | zero => exact absurd HA.out (by simp [impl_NodeOk.j0])
  | succ kj7 =>
   have H := HA.out; clear HA
   simp only [impl_NodeOk.j0] at H
   by_cases c16 : x38_7 = true
   ·
    subst c16; rw [if_pos rfl] at H; obtain rfl := sj H
    go_wp2
    go_ret
    exact ⟨ez, be w⟩
   replace c16 := Bool.eq_false_iff.mpr c16; subst c16; rw [if_neg ft] at H; have H' := As.mk H; clear H; obtain ⟨y17a, y17b, y17c, y17d, v17a, v17b, v17c, v17d⟩ := cl4 BK383.out
   go_wp2
   go_loopg [42] kj7 (fun kq v42 w' => ∃ (x42_2 : Int), v42 = .int .i64 x42_2 ∧ As (impl_NodeOk.l0 kq l0 a1 ((rd_T62 l0 a1).f3) (((rd_T62 l0 a1).f3).length : Int) x42_2 ((rd_T62 l0 a1).f0) ((rd_T62 l0 a1).f1) ((rd_T62 l0 a1).f2) ((rd_T62 l0 a1).f3) = some r) ∧ As (kq ≤ kj7) ∧ As (w'.heap[gb383]? = some (.cells #[.int .i64 ((rd_T62 l0 a1).f0), .int .i64 ((rd_T62 l0 a1).f1), .string ((rd_T62 l0 a1).f2), (.slice A382_3 ((rd_T62 l0 a1).f3).length c382_3)] 62 (0, 0))) ∧ As (Below w.heap.size w w'))
   case atStart => exact ⟨(0), (by first | rfl | (simp; done) | (simp [*]; done)), H', ⟨Nat.le_refl _⟩, ⟨bx BK383.out⟩, ⟨be w⟩⟩
   case round =>
    clear H'; (try clear c4); (try clear c5); (try clear c5b0); (try clear c6); (try clear c6b0); (try clear c16); (try clear y10a); (try clear y10b); (try clear y10c); (try clear y10d); (try clear y17a); (try clear y17b); (try clear y17c); (try clear y17d); (try clear v10a); (try clear v10b); (try clear v10c); (try clear v10d); (try clear v17a); (try clear v17b); (try clear v17c); (try clear v17d); (try clear x382a); (try clear x382b); (try clear x382c); (try clear x382d); (try clear p382); (try clear q382); obtain ⟨x42_2, rfl, HA, HK2, BK383, HB⟩ := hrel
    cases gk with
    | zero => exact absurd HA.out (by simp [impl_NodeOk.l0])
    | succ k2 =>
     have H := HA.out; clear HA
     simp only [impl_NodeOk.l0] at H
     by_cases c18 : x42_2 < (((rd_T62 l0 a1).f3).length : Int)
     rotate_left
     ·
      rw [if_neg c18] at H; have c18b0 := decide_eq_false c18; clear c18; have HC38 := As.mk H; clear H
      go_upto_region 13 with (fail)
      go_cut [91] (fun v91 wc => ∃ (kq : Nat) (x91_37 : Bool), v91 = .bool x91_37 ∧ As (impl_NodeOk.j2 kq x91_37 ((rd_T62 l0 a1).f0) ((rd_T62 l0 a1).f1) ((rd_T62 l0 a1).f2) ((rd_T62 l0 a1).f3) = some r) ∧ As (kq ≤ k2) ∧ As (wc.heap[gb383]? = some (.cells #[.int .i64 ((rd_T62 l0 a1).f0), .int .i64 ((rd_T62 l0 a1).f1), .string ((rd_T62 l0 a1).f2), (.slice A382_3 ((rd_T62 l0 a1).f3).length c382_3)] 62 (0, 0))) ∧ As (Below w.heap.size w wc))
      case first =>
       have H := HC38.out; clear HC38
       by_cases c39 : ((rd_T62 l0 a1).f0) = 1
       rotate_left
       ·
        rw [if_neg c39] at H; have c39b0 : (((rd_T62 l0 a1).f0) == 1) = false := beq_eq_false_iff_ne.mpr c39; have c39b1 : (((rd_T62 l0 a1).f0) != 1) = true := bne_iff_ne.mpr c39
        (first | rw [c39b0] | (simp only [i64_w, i32_w]; rw [c39b0]) | skip)
        have H' := As.mk H; clear H; obtain ⟨y44a, y44b, y44c, y44d, v44a, v44b, v44c, v44d⟩ := cl4 BK383.out
        go_wp2
        go_meet
        case rel => exact ⟨_, ((((rd_T62 l0 a1).f1) != 0)), (by first | rfl | (simp; done) | (simp [*]; done)), H', ⟨by have := HJ7.out; have := HK2.out; first | omega | exact Nat.le_refl _⟩, ⟨bx BK383.out⟩, ⟨be w⟩⟩
       rw [if_pos c39] at H; have c39b0 : (((rd_T62 l0 a1).f0) == 1) = true := beq_iff_eq.mpr c39; have c39b1 : (((rd_T62 l0 a1).f0) != 1) = false := bne_eq_false_iff_eq.mpr c39; clear c39
       (first | rw [c39b0] | (simp only [i64_w, i32_w]; rw [c39b0]) | skip)
       replace H := bo H; obtain ⟨t394, A40, H⟩ := H
       by_cases c41 : t394 = true
       ·
        subst c41; rw [if_pos rfl] at H; have H' := As.mk H; clear H; obtain ⟨y42a, y42b, y42c, y42d, v42a, v42b, v42c, v42d⟩ := cl4 BK383.out
        go_wp2_with (first | (go_at_call 36; (with_reducible refine (impl_in.calls ((rd_T62 l0 a1).f1) 0 1000000000 true _ A40.out).mono ?_); rintro e w' ⟨rfl, ⟨nd, rfl⟩⟩))
        go_meet
        case rel => exact ⟨_, (false), (by first | rfl | (simp; done) | (simp [*]; done)), H', ⟨by have := HJ7.out; have := HK2.out; first | omega | exact Nat.le_refl _⟩, ⟨bx BK383.out⟩, ⟨be w⟩⟩
       replace c41 := Bool.eq_false_iff.mpr c41; subst c41; rw [if_neg ft] at H; have H' := As.mk H; clear H; obtain ⟨y43a, y43b, y43c, y43d, v43a, v43b, v43c, v43d⟩ := cl4 BK383.out
       go_wp2_with (first | (go_at_call 36; (with_reducible refine (impl_in.calls ((rd_T62 l0 a1).f1) 0 1000000000 false _ A40.out).mono ?_); rintro e w' ⟨rfl, ⟨nd, rfl⟩⟩))
       go_meet
       case rel => exact ⟨_, (true), (by first | rfl | (simp; done) | (simp [*]; done)), H', ⟨by have := HJ7.out; have := HK2.out; first | omega | exact Nat.le_refl _⟩, ⟨bx BK383.out⟩, ⟨be w⟩⟩
      case rest =>
       clear HC38; (try clear c4); (try clear c18); (try clear c18b0); obtain ⟨kq, x91_37, rfl, HA, HJ37, BK383, HB⟩ := hcut
       cases kq with
       | zero => exact absurd HA.out (by simp [impl_NodeOk.j2])
       | succ kj37 =>
        have H := HA.out; clear HA
        simp only [impl_NodeOk.j2] at H
        by_cases c45 : x91_37 = true
        ·
         subst c45; rw [if_pos rfl] at H; obtain rfl := sj H
         go_wp2
         go_ret
         exact ⟨ez, be w⟩
        replace c45 := Bool.eq_false_iff.mpr c45; subst c45; rw [if_neg ft] at H; replace H := bo H; obtain ⟨t395, A46, H⟩ := H
        by_cases c47 : t395 = true
        rotate_left
        ·
         replace c47 := Bool.eq_false_iff.mpr c47; subst c47; rw [if_neg ft] at H; obtain rfl := sj H; obtain ⟨y51a, y51b, y51c, y51d, v51a, v51b, v51c, v51d⟩ := cl4 BK383.out
         go_wp2_with (first | ((with_reducible refine gate_callee (f := 118) rfl ?_); refine goL (some 94) Tryz.func118 #[.int .i64 ((rd_T62 l0 a1).f0)] ?_; (with_reducible refine (impl_hasName.calls ((rd_T62 l0 a1).f0) false _ A46.out).mono ?_); rintro e w' ⟨rfl, ⟨nd, rfl⟩⟩; refine ⟨_, rfl, ?_⟩))
         go_ret
         exact ⟨ez, be w⟩
        subst c47; rw [if_pos rfl] at H; replace H := bo H; obtain ⟨t396, A48, H⟩ := H; obtain rfl := sj H; obtain ⟨y49a, y49b, y49c, y49d, v49a, v49b, v49c, v49d⟩ := cl4 BK383.out
        go_wp2_with (first | ((with_reducible refine gate_callee (f := 118) rfl ?_); refine goL (some 94) Tryz.func118 #[.int .i64 ((rd_T62 l0 a1).f0)] ?_; (with_reducible refine (impl_hasName.calls ((rd_T62 l0 a1).f0) true _ A46.out).mono ?_); rintro e w' ⟨rfl, ⟨nd, rfl⟩⟩; refine ⟨_, rfl, ?_⟩) | ((with_reducible refine gate_callee (f := 107) rfl ?_); refine goL (some 97) Tryz.func107 #[.string ((rd_T62 l0 a1).f2)] ?_; (with_reducible refine (impl_NameOk.calls kj37 ((rd_T62 l0 a1).f2) t396 _ A48.out).mono ?_); rintro e w50 ⟨rfl, hb⟩; refine ⟨_, rfl, ?_⟩; replace HB := bs w hb; (try clear hb)))
        go_ret
        exact ⟨ez, be w⟩
     rw [if_pos c18] at H; have c18b0 := decide_eq_true c18; clear c18; replace H := ia H; obtain ⟨c19b0, H⟩ := H; replace H := ia H; obtain ⟨c20b0, H⟩ := H; replace H := bo H; obtain ⟨t389, A21, H⟩ := H
     by_cases c22 : t389 = true
     rotate_left
     ·
      replace c22 := Bool.eq_false_iff.mpr c22; subst c22; rw [if_neg ft] at H; obtain rfl := sj H; have p388 : 0 ≤ (x42_2 : Int) := od; have q388 : x42_2 < (((rd_T62 l0 a1).f3).length : Int) := od; obtain ⟨ad388, e388, x388a⟩ := Kd.at_int HR382_3.out x42_2 p388 q388; cases e388; replace x388a := ce HB.out x388a; replace p388 := eq_true p388; replace q388 := eq_true q388
      try go_wp2
      replace BK383 := As.mk (blk_drew BK383.out); replace HB := As.mk (below_drew1 HB.out)
      refine start_ (n := 25) (S := fun w' => True) (ds := []) #[O,O,O,O,O,O,O,O,O,O,O,O,O,O,O,O,O,O,O,O,O,O,O,O,O] (by kernel_rfl) rfl rfl trivial (fun hHeld => ?_); refine with_tabW impl_NodeOk.tab10 impl_NodeOk.bits10 (fun HT_ HW_ => ?_)
      generalize wr.drew = w37 at BK383 HB hHeld ⊢
      refine pq 0 47 HT_ _ _ ?_; refine pq 1 48 HT_ _ _ ?_; refine pq 2 49 HT_ _ _ ?_; refine on 3 (some 50) HT_ (fun K hK => ?_); refine goS Tryz.func36 #[.int .i64 (rd ((rd_T62 l0 a1).f3) x42_2), .int .i64 0, .int .i64 (wrap64 (a1 - 1))] ?_
      with_reducible refine (impl_in.calls (rd ((rd_T62 l0 a1).f3) x42_2) 0 (wrap64 (a1 - 1)) false _ A21.out).mono ?_
      rintro e w' ⟨rfl, ⟨nd, rfl⟩⟩
      refine ⟨_, rfl, ?_⟩
      refine hK.out _ _ trivial (fun hHeld => ?_)
      clear hK K; refine nm _ ?_; refine pq 4 51 HT_ _ _ ?_; refine pq 5 52 HT_ _ _ ?_; refine pu 6 53 HT_ _ ?_; refine pu 7 54 HT_ _ ?_; refine pu 8 55 HT_ _ ?_; refine pu 9 56 HT_ _ ?_; refine pu 10 57 HT_ _ ?_; refine pu 11 58 HT_ _ ?_; refine pq 12 59 HT_ _ _ ?_; refine pq 13 60 HT_ _ _ ?_; refine pu 14 61 HT_ _ ?_; refine pu 15 62 HT_ _ ?_; refine pu 16 63 HT_ _ ?_; refine pu 17 64 HT_ _ ?_; refine pu 18 65 HT_ _ ?_; refine pu 19 66 HT_ _ ?_; refine pu 20 67 HT_ _ ?_; refine pu 21 68 HT_ _ ?_; refine pu 22 69 HT_ _ ?_; refine pu 23 70 HT_ _ ?_; refine pq 24 71 HT_ _ _ ?_
      refine done_ (done_of HT_.out (by kernel_rfl)) ?_
      try go_wp2
      go_ret
      exact ⟨ez, be w⟩
     subst c22; rw [if_pos rfl] at H; have c23b0 := eq_true (of_decide_eq_true (by first | (with_reducible assumption) | assumption) : 0 ≤ x42_2); replace H := ie H; obtain ⟨c24b0, c24b1, H⟩ := H; replace H := bo H; obtain ⟨t391, A25, H⟩ := H
     by_cases c26 : t391 = true
     ·
      subst c26; rw [if_pos rfl] at H; obtain rfl := sj H; have p388 : 0 ≤ (x42_2 : Int) := od; have q388 : x42_2 < (((rd_T62 l0 a1).f3).length : Int) := od; obtain ⟨ad388, e388, x388a⟩ := Kd.at_int HR382_3.out x42_2 p388 q388; cases e388; replace x388a := ce HB.out x388a; replace p388 := eq_true p388; replace q388 := eq_true q388
      try go_wp2
      replace BK383 := As.mk (blk_drew BK383.out); replace HB := As.mk (below_drew1 HB.out)
      refine start_ (n := 25) (S := _) (ds := []) #[O,O,O,O,O,O,O,O,O,O,O,O,O,O,O,O,O,O,O,O,O,O,O,O,O] (by kernel_rfl) rfl rfl (bf BK383.out) (fun hHeld => ?_); refine with_tabW impl_NodeOk.tab10 impl_NodeOk.bits10 (fun HT_ HW_ => ?_)
      generalize wr.drew = w27 at BK383 HB hHeld ⊢
      refine pq 0 47 HT_ _ _ ?_; refine pq 1 48 HT_ _ _ ?_; refine pq 2 49 HT_ _ _ ?_; refine on 3 (some 50) HT_ (fun K hK => ?_); refine goS Tryz.func36 #[.int .i64 (rd ((rd_T62 l0 a1).f3) x42_2), .int .i64 0, .int .i64 (wrap64 (a1 - 1))] ?_
      with_reducible refine (impl_in.calls (rd ((rd_T62 l0 a1).f3) x42_2) 0 (wrap64 (a1 - 1)) true _ A21.out).mono ?_
      rintro e w' ⟨rfl, ⟨nd, rfl⟩⟩
      refine ⟨_, rfl, ?_⟩
      obtain ⟨i028, hi028, _, hsz28, _⟩ := info_parts info3; obtain ⟨hcut28, hA28, hC28⟩ := print_take_of (P := Tryz.prog) (Value.int .i64) 0 45 3 .i64 Tryz.underlying45 hi028 hsz28 (some ad388) c382_3 ((rd_T62 l0 a1).f3) x42_2 (of_decide_eq_true (by first | (with_reducible assumption) | assumption)) (of_decide_eq_true (by first | (with_reducible assumption) | assumption)) HC382_3.out; have HR390 := As.mk (Kd.C_of_reads (h1 := fun _ => rfl) (hA28 _ (Kd.reads_of_C HR382_3.out))); have HC390 := As.mk hC28; clear hA28 hC28 hi028 hsz28
      refine hK.out _ _ (bf BK383.out) (fun hHeld => ?_)
      clear hK K; refine nm _ ?_; refine pq 4 51 HT_ _ _ ?_; refine pq 5 52 HT_ _ _ ?_; refine pq 6 53 HT_ _ _ ?_; refine pq 8 55 HT_ _ _ ?_; refine pq 10 57 HT_ _ _ ?_; refine tq_b4 7 54 HT_ HW_.out hHeld _ _ ?_; refine pq 9 56 HT_ _ _ ?_; refine on 11 (some 58) HT_ (fun K hK => ?_); refine goes_ Tryz.func87 (by kernel_rfl) rfl #[.slice (some ad388) (((rd_T62 l0 a1).f3).take (x42_2 : Int).toNat).length c382_3, .int .i64 (rd ((rd_T62 l0 a1).f3) x42_2)] (by rfl) rfl rfl (by (try simp only [lm]); first | done | (rw [show (((rd_T62 l0 a1).f3).take (x42_2 : Int).toNat).length = x42_2.toNat from (by rw [List.length_take]; have h_ : (x42_2 : Int) ≤ (((rd_T62 l0 a1).f3).length : Int) := od; omega)] <;> rfl) | rfl | (simp only [List.length_drop, List.length_take]; rfl)) ?_
      with_reducible refine (impl_hasInt.calls k2 _ _ (((rd_T62 l0 a1).f3).take (x42_2 : Int).toNat) (rd ((rd_T62 l0 a1).f3) x42_2) true _ ?side1 ?side2 A25.out).mono ?_
      (case side1 => exact Kd.C_below HR390.out (be w))
      (case side2 => exact HC390.out)
      rintro e w' ⟨rfl, ⟨nd, rfl⟩⟩
      refine ⟨_, rfl, ?_⟩
      refine hK.out _ _ (bf BK383.out) (fun hHeld => ?_)
      clear hK K; refine nm _ ?_; refine pq 12 59 HT_ _ _ ?_; refine pq 13 60 HT_ _ _ ?_; refine pu 14 61 HT_ _ ?_; refine pu 15 62 HT_ _ ?_; refine pu 16 63 HT_ _ ?_; refine pu 17 64 HT_ _ ?_; refine pu 18 65 HT_ _ ?_; refine pu 19 66 HT_ _ ?_; refine pu 20 67 HT_ _ ?_; refine pu 21 68 HT_ _ ?_; refine pu 22 69 HT_ _ ?_; refine pu 23 70 HT_ _ ?_; refine pq 24 71 HT_ _ _ ?_
      refine done_ (done_of HT_.out (by kernel_rfl)) ?_
      try go_wp2
      go_ret
      exact ⟨ez, be w⟩
     replace c26 := Bool.eq_false_iff.mpr c26; subst c26; rw [if_neg ft] at H; replace H := ia H; obtain ⟨c29b0, H⟩ := H; replace H := ia H; obtain ⟨c30b0, H⟩ := H; replace H := bo H; obtain ⟨t393, A31, H⟩ := H
     by_cases c32 : t393 = true
     rotate_left
     ·
      replace c32 := Bool.eq_false_iff.mpr c32; subst c32; rw [if_neg ft] at H; obtain rfl := sj H; have p388 : 0 ≤ (x42_2 : Int) := od; have q388 : x42_2 < (((rd_T62 l0 a1).f3).length : Int) := od; obtain ⟨ad388, e388, x388a⟩ := Kd.at_int HR382_3.out x42_2 p388 q388; cases e388; replace x388a := ce HB.out x388a; replace p388 := eq_true p388; replace q388 := eq_true q388
      try go_wp2
      replace BK383 := As.mk (blk_drew BK383.out); replace HB := As.mk (below_drew1 HB.out); have p392 : 0 ≤ ((rd ((rd_T62 l0 a1).f3) x42_2) : Int) := od; have q392 : (rd ((rd_T62 l0 a1).f3) x42_2) < (l0.length : Int) := od; obtain ⟨ad392, A392_3, c392_3, e392, x392a, x392b, x392c, x392d, hl392_3, hi392_3⟩ := at_T62 HR0.out (rd ((rd_T62 l0 a1).f3) x42_2) p392 q392; have hw392_3 := x392d; have hw392_2 := x392c; have hw392_1 := x392b; have hw392_0 := x392a; obtain rfl : ad382 = ad392 := (by injection e392); replace x392a := ce HB.out x392a; replace x392b := ce HB.out x392b; replace x392c := ce HB.out x392c; replace x392d := ce HB.out x392d; have HR392_3 := As.mk hi392_3; have HC392_3 := As.mk hl392_3; clear hi392_3 hl392_3; replace p392 := eq_true p392; replace q392 := eq_true q392
      refine start_ (n := 25) (S := _) (ds := []) #[O,O,O,O,O,O,O,O,O,O,O,O,O,O,O,O,O,O,O,O,O,O,O,O,O] (by kernel_rfl) rfl rfl (ba (bf BK383.out) (ba (cf hw392_0) (ba (cf hw392_1) (ba (cf hw392_2) (cf hw392_3))))) (fun hHeld => ?_); refine with_tabW impl_NodeOk.tab10 impl_NodeOk.bits10 (fun HT_ HW_ => ?_)
      generalize wr.drew = w35 at BK383 HB HR392_3 x392a x392b x392c x392d hHeld ⊢
      refine pq 0 47 HT_ _ _ ?_; refine pq 1 48 HT_ _ _ ?_; refine pq 2 49 HT_ _ _ ?_; refine on 3 (some 50) HT_ (fun K hK => ?_); refine goS Tryz.func36 #[.int .i64 (rd ((rd_T62 l0 a1).f3) x42_2), .int .i64 0, .int .i64 (wrap64 (a1 - 1))] ?_
      with_reducible refine (impl_in.calls (rd ((rd_T62 l0 a1).f3) x42_2) 0 (wrap64 (a1 - 1)) true _ A21.out).mono ?_
      rintro e w' ⟨rfl, ⟨nd, rfl⟩⟩
      refine ⟨_, rfl, ?_⟩
      obtain ⟨i036, hi036, _, hsz36, _⟩ := info_parts info3; obtain ⟨hcut36, hA36, hC36⟩ := print_take_of (P := Tryz.prog) (Value.int .i64) 0 45 3 .i64 Tryz.underlying45 hi036 hsz36 (some ad388) c382_3 ((rd_T62 l0 a1).f3) x42_2 (of_decide_eq_true (by first | (with_reducible assumption) | assumption)) (of_decide_eq_true (by first | (with_reducible assumption) | assumption)) HC382_3.out; have HR390 := As.mk (Kd.C_of_reads (h1 := fun _ => rfl) (hA36 _ (Kd.reads_of_C HR382_3.out))); have HC390 := As.mk hC36; clear hA36 hC36 hi036 hsz36
      refine hK.out _ _ (ba (bf BK383.out) (ba (cf hw392_0) (ba (cf hw392_1) (ba (cf hw392_2) (cf hw392_3))))) (fun hHeld => ?_)
      clear hK K; refine nm _ ?_; refine pq 4 51 HT_ _ _ ?_; refine pq 5 52 HT_ _ _ ?_; refine pq 6 53 HT_ _ _ ?_; refine pq 8 55 HT_ _ _ ?_; refine pq 10 57 HT_ _ _ ?_; refine tq_b4c1c1c1c1 7 54 HT_ HW_.out hHeld _ _ ?_; refine pq 9 56 HT_ _ _ ?_; refine on 11 (some 58) HT_ (fun K hK => ?_); refine goes_ Tryz.func87 (by kernel_rfl) rfl #[.slice (some ad388) (((rd_T62 l0 a1).f3).take (x42_2 : Int).toNat).length c382_3, .int .i64 (rd ((rd_T62 l0 a1).f3) x42_2)] (by rfl) rfl rfl (by (try simp only [lm]); first | done | (rw [show (((rd_T62 l0 a1).f3).take (x42_2 : Int).toNat).length = x42_2.toNat from (by rw [List.length_take]; have h_ : (x42_2 : Int) ≤ (((rd_T62 l0 a1).f3).length : Int) := od; omega)] <;> rfl) | rfl | (simp only [List.length_drop, List.length_take]; rfl)) ?_
      with_reducible refine (impl_hasInt.calls k2 _ _ (((rd_T62 l0 a1).f3).take (x42_2 : Int).toNat) (rd ((rd_T62 l0 a1).f3) x42_2) false _ ?side1 ?side2 A25.out).mono ?_
      (case side1 => exact Kd.C_below HR390.out (be w))
      (case side2 => exact HC390.out)
      rintro e w' ⟨rfl, ⟨nd, rfl⟩⟩
      refine ⟨_, rfl, ?_⟩
      refine hK.out _ _ (ba (bf BK383.out) (ba (cf hw392_0) (ba (cf hw392_1) (ba (cf hw392_2) (cf hw392_3))))) (fun hHeld => ?_)
      clear hK K; refine nm _ ?_; refine pq 12 59 HT_ _ _ ?_; refine pq 13 60 HT_ _ _ ?_; refine pq 14 61 HT_ _ _ ?_; refine pq 16 63 HT_ _ _ ?_; refine pq 17 64 HT_ _ _ ?_; refine pq 18 65 HT_ _ _ ?_; refine pq 19 66 HT_ _ _ ?_; refine pq 20 67 HT_ _ _ ?_; refine tq_b4c1c1c1c1 15 62 HT_ HW_.out hHeld _ _ ?_; refine tq_b4c1c1c1c1 21 68 HT_ HW_.out hHeld _ _ ?_; refine on 22 (some 69) HT_ (fun K hK => ?_); refine goS Tryz.func117 #[.int .i64 ((rd_T62 l0 a1).f0), .int .i64 x42_2, .int .i64 ((rd_T62 l0 (rd ((rd_T62 l0 a1).f3) x42_2)).f0)] ?_
      with_reducible refine (impl_kidFits.calls k2 ((rd_T62 l0 a1).f0) x42_2 ((rd_T62 l0 (rd ((rd_T62 l0 a1).f3) x42_2)).f0) false _ A31.out).mono ?_
      rintro e w' ⟨rfl, ⟨nd, rfl⟩⟩
      refine ⟨_, rfl, ?_⟩
      refine hK.out _ _ (ba (bf BK383.out) (ba (cf hw392_0) (ba (cf hw392_1) (ba (cf hw392_2) (cf hw392_3))))) (fun hHeld => ?_)
      clear hK K; refine nm _ ?_; refine pq 23 70 HT_ _ _ ?_; refine pq 24 71 HT_ _ _ ?_
      refine done_ (done_of HT_.out (by kernel_rfl)) ?_
      try go_wp2
      go_ret
      exact ⟨ez, be w⟩
     subst c32; rw [if_pos rfl] at H; have H' := As.mk H; clear H; have p388 : 0 ≤ (x42_2 : Int) := od; have q388 : x42_2 < (((rd_T62 l0 a1).f3).length : Int) := od; obtain ⟨ad388, e388, x388a⟩ := Kd.at_int HR382_3.out x42_2 p388 q388; cases e388; replace x388a := ce HB.out x388a; replace p388 := eq_true p388; replace q388 := eq_true q388
     try go_wp2
     replace BK383 := As.mk (blk_drew BK383.out); replace HB := As.mk (below_drew1 HB.out); have p392 : 0 ≤ ((rd ((rd_T62 l0 a1).f3) x42_2) : Int) := od; have q392 : (rd ((rd_T62 l0 a1).f3) x42_2) < (l0.length : Int) := od; obtain ⟨ad392, A392_3, c392_3, e392, x392a, x392b, x392c, x392d, hl392_3, hi392_3⟩ := at_T62 HR0.out (rd ((rd_T62 l0 a1).f3) x42_2) p392 q392; have hw392_3 := x392d; have hw392_2 := x392c; have hw392_1 := x392b; have hw392_0 := x392a; obtain rfl : ad382 = ad392 := (by injection e392); replace x392a := ce HB.out x392a; replace x392b := ce HB.out x392b; replace x392c := ce HB.out x392c; replace x392d := ce HB.out x392d; have HR392_3 := As.mk hi392_3; have HC392_3 := As.mk hl392_3; clear hi392_3 hl392_3; replace p392 := eq_true p392; replace q392 := eq_true q392
     refine start_ (n := 25) (S := _) (ds := []) #[O,O,O,O,O,O,O,O,O,O,O,O,O,O,O,O,O,O,O,O,O,O,O,O,O] (by kernel_rfl) rfl rfl (ba (bf BK383.out) (ba (cf hw392_0) (ba (cf hw392_1) (ba (cf hw392_2) (cf hw392_3))))) (fun hHeld => ?_); refine with_tabW impl_NodeOk.tab10 impl_NodeOk.bits10 (fun HT_ HW_ => ?_)
     generalize wr.drew = w33 at BK383 HB HR392_3 x392a x392b x392c x392d hHeld ⊢
     refine pq 0 47 HT_ _ _ ?_; refine pq 1 48 HT_ _ _ ?_; refine pq 2 49 HT_ _ _ ?_; refine on 3 (some 50) HT_ (fun K hK => ?_); refine goS Tryz.func36 #[.int .i64 (rd ((rd_T62 l0 a1).f3) x42_2), .int .i64 0, .int .i64 (wrap64 (a1 - 1))] ?_
     with_reducible refine (impl_in.calls (rd ((rd_T62 l0 a1).f3) x42_2) 0 (wrap64 (a1 - 1)) true _ A21.out).mono ?_
     rintro e w' ⟨rfl, ⟨nd, rfl⟩⟩
     refine ⟨_, rfl, ?_⟩
     obtain ⟨i034, hi034, _, hsz34, _⟩ := info_parts info3; obtain ⟨hcut34, hA34, hC34⟩ := print_take_of (P := Tryz.prog) (Value.int .i64) 0 45 3 .i64 Tryz.underlying45 hi034 hsz34 (some ad388) c382_3 ((rd_T62 l0 a1).f3) x42_2 (of_decide_eq_true (by first | (with_reducible assumption) | assumption)) (of_decide_eq_true (by first | (with_reducible assumption) | assumption)) HC382_3.out; have HR390 := As.mk (Kd.C_of_reads (h1 := fun _ => rfl) (hA34 _ (Kd.reads_of_C HR382_3.out))); have HC390 := As.mk hC34; clear hA34 hC34 hi034 hsz34
     refine hK.out _ _ (ba (bf BK383.out) (ba (cf hw392_0) (ba (cf hw392_1) (ba (cf hw392_2) (cf hw392_3))))) (fun hHeld => ?_)
     clear hK K; refine nm _ ?_; refine pq 4 51 HT_ _ _ ?_; refine pq 5 52 HT_ _ _ ?_; refine pq 6 53 HT_ _ _ ?_; refine pq 8 55 HT_ _ _ ?_; refine pq 10 57 HT_ _ _ ?_; refine tq_b4c1c1c1c1 7 54 HT_ HW_.out hHeld _ _ ?_; refine pq 9 56 HT_ _ _ ?_; refine on 11 (some 58) HT_ (fun K hK => ?_); refine goes_ Tryz.func87 (by kernel_rfl) rfl #[.slice (some ad388) (((rd_T62 l0 a1).f3).take (x42_2 : Int).toNat).length c382_3, .int .i64 (rd ((rd_T62 l0 a1).f3) x42_2)] (by rfl) rfl rfl (by (try simp only [lm]); first | done | (rw [show (((rd_T62 l0 a1).f3).take (x42_2 : Int).toNat).length = x42_2.toNat from (by rw [List.length_take]; have h_ : (x42_2 : Int) ≤ (((rd_T62 l0 a1).f3).length : Int) := od; omega)] <;> rfl) | rfl | (simp only [List.length_drop, List.length_take]; rfl)) ?_
     with_reducible refine (impl_hasInt.calls k2 _ _ (((rd_T62 l0 a1).f3).take (x42_2 : Int).toNat) (rd ((rd_T62 l0 a1).f3) x42_2) false _ ?side1 ?side2 A25.out).mono ?_
     (case side1 => exact Kd.C_below HR390.out (be w))
     (case side2 => exact HC390.out)
     rintro e w' ⟨rfl, ⟨nd, rfl⟩⟩
     refine ⟨_, rfl, ?_⟩
     refine hK.out _ _ (ba (bf BK383.out) (ba (cf hw392_0) (ba (cf hw392_1) (ba (cf hw392_2) (cf hw392_3))))) (fun hHeld => ?_)
     clear hK K; refine nm _ ?_; refine pq 12 59 HT_ _ _ ?_; refine pq 13 60 HT_ _ _ ?_; refine pq 14 61 HT_ _ _ ?_; refine pq 16 63 HT_ _ _ ?_; refine pq 17 64 HT_ _ _ ?_; refine pq 18 65 HT_ _ _ ?_; refine pq 19 66 HT_ _ _ ?_; refine pq 20 67 HT_ _ _ ?_; refine tq_b4c1c1c1c1 15 62 HT_ HW_.out hHeld _ _ ?_; refine tq_b4c1c1c1c1 21 68 HT_ HW_.out hHeld _ _ ?_; refine on 22 (some 69) HT_ (fun K hK => ?_); refine goS Tryz.func117 #[.int .i64 ((rd_T62 l0 a1).f0), .int .i64 x42_2, .int .i64 ((rd_T62 l0 (rd ((rd_T62 l0 a1).f3) x42_2)).f0)] ?_
     with_reducible refine (impl_kidFits.calls k2 ((rd_T62 l0 a1).f0) x42_2 ((rd_T62 l0 (rd ((rd_T62 l0 a1).f3) x42_2)).f0) true _ A31.out).mono ?_
     rintro e w' ⟨rfl, ⟨nd, rfl⟩⟩
     refine ⟨_, rfl, ?_⟩
     refine hK.out _ _ (ba (bf BK383.out) (ba (cf hw392_0) (ba (cf hw392_1) (ba (cf hw392_2) (cf hw392_3))))) (fun hHeld => ?_)
     clear hK K; refine nm _ ?_; refine pq 23 70 HT_ _ _ ?_; refine pq 24 71 HT_ _ _ ?_
     refine done_ (done_of HT_.out (by kernel_rfl)) ?_
     try go_wp2
     go_roundg k2
     case measure => have := HJ7.out; have := HK2.out; omega
     case rel => exact ⟨(wrap64 (x42_2 + 1)), (by first | rfl | (simp; done) | (simp [*]; done)), H', ⟨by have := HJ7.out; have := HK2.out; omega⟩, ⟨bx BK383.out⟩, ⟨be w⟩⟩
end Go.Proofs.YtcoapbnbakmkoaaGreatDoor.PFnExactShowProgram
