/- Written by a program of this session (a turned copy of the kit's print): a contract for each Go function. No condition beside those in each statement. -/
import Derived.Test.YtcoapbnbakmkoaaGreatDoorPFnExactShowProgramx0
import Derived.Test.YtcoapbnbakmkoaaGreatDoorPFnExactShowProgramx8
import Derived.Test.YtcoapbnbakmkoaaGreatDoorPFnExactShowProgramx10
import Derived.Test.YtcoapbnbakmkoaaGreatDoorPFnExactShowProgramx11
namespace Go.Proofs.YtcoapbnbakmkoaaGreatDoor.PFnExactShowProgram
open Go.RowKit Go.Proofs.YtcoapbnbakmkoaaGreatDoor.Given Go.Proofs.YtcoapbnbakmkoaaGreatDoorW.PrintWords Go.Proofs.YtcoapbnbakmkoaaGreatDoorW.PrintLast Go.Proofs.YtcoapbnbakmkoaaGreatDoorW.PrintMore
attribute [local go_sem] max2_int min2_int max_two min_two max_three min_three max_four min_four   -- for this text's walks alone
set_option linter.unusedVariables false
set_option linter.unusedSimpArgs false

/-! ### spec_ShowProgram: function 20 -/
mutual
def spec_ShowProgram.l0 : Nat → ByteArray → Int → List (S62) → List (S56) → Option (ByteArray × Bool)
 | 0, _, _, _, _ => none
 | k + 1, x4, x5, x352000, x352001 => if x5 < (x352001.length : Int) then (if 0 ≤ x5 then (if x4.size + 3 ≤ 9223372036854775807 then (if (x4 ++ (⟨#[102, 110, 32]⟩ : ByteArray)).size + ((rd_T56 x352001 x5).f0).size ≤ 9223372036854775807 then (if ((x4 ++ (⟨#[102, 110, 32]⟩ : ByteArray)) ++ ((rd_T56 x352001 x5).f0)).size + 1 ≤ 9223372036854775807 then (spec_ShowProgram.l1 k (((x4 ++ (⟨#[102, 110, 32]⟩ : ByteArray)) ++ ((rd_T56 x352001 x5).f0)) ++ (⟨#[40]⟩ : ByteArray)) x5 0 x352000 x352001 ((rd_T56 x352001 x5).f0) ((rd_T56 x352001 x5).f1) ((rd_T56 x352001 x5).f2) ((rd_T56 x352001 x5).f3) ((rd_T56 x352001 x5).f4)) else (none)) else (none)) else (none)) else (none)) else (if (x4.size : Int) > 3000 then (some ((⟨#[]⟩ : ByteArray), false)) else (some (x4, true)))
def spec_ShowProgram.l1 : Nat → ByteArray → Int → Int → List (S62) → List (S56) → ByteArray → List (S58) → Int → Int → Int → Option (ByteArray × Bool)
 | 0, _, _, _, _, _, _, _, _, _, _ => none
 | k + 1, x4, x5, x7, x352000, x352001, x355000, x355001, x355002, x355003, x355004 => if x7 < (x355001.length : Int) then (if x7 > 0 then (if x4.size + 2 ≤ 9223372036854775807 then (if 0 ≤ x7 then (if (x4 ++ (⟨#[44, 32]⟩ : ByteArray)).size + ((rd_T58 x355001 x7).f0).size ≤ 9223372036854775807 then (if ((x4 ++ (⟨#[44, 32]⟩ : ByteArray)) ++ ((rd_T58 x355001 x7).f0)).size + 2 ≤ 9223372036854775807 then ((spec_l06Type.f ((rd_T58 x355001 x7).f1)).bind fun t357 => (if (((x4 ++ (⟨#[44, 32]⟩ : ByteArray)) ++ ((rd_T58 x355001 x7).f0)) ++ (⟨#[58, 32]⟩ : ByteArray)).size + t357.size ≤ 9223372036854775807 then (spec_ShowProgram.l1 k ((((x4 ++ (⟨#[44, 32]⟩ : ByteArray)) ++ ((rd_T58 x355001 x7).f0)) ++ (⟨#[58, 32]⟩ : ByteArray)) ++ t357) x5 (wrap64 (x7 + 1)) x352000 x352001 x355000 x355001 x355002 x355003 x355004) else (none))) else (none)) else (none)) else (none)) else (none)) else (if 0 ≤ x7 then (if x4.size + ((rd_T58 x355001 x7).f0).size ≤ 9223372036854775807 then (if (x4 ++ ((rd_T58 x355001 x7).f0)).size + 2 ≤ 9223372036854775807 then ((spec_l06Type.f ((rd_T58 x355001 x7).f1)).bind fun t360 => (if ((x4 ++ ((rd_T58 x355001 x7).f0)) ++ (⟨#[58, 32]⟩ : ByteArray)).size + t360.size ≤ 9223372036854775807 then (spec_ShowProgram.l1 k (((x4 ++ ((rd_T58 x355001 x7).f0)) ++ (⟨#[58, 32]⟩ : ByteArray)) ++ t360) x5 (wrap64 (x7 + 1)) x352000 x352001 x355000 x355001 x355002 x355003 x355004) else (none))) else (none)) else (none)) else (none))) else (if x4.size + 1 ≤ 9223372036854775807 then (if x355002 = 0 then (spec_ShowProgram.j2 k (x4 ++ (⟨#[41]⟩ : ByteArray)) x5 x352000 x352001 x355000 x355001 x355002 x355003 x355004) else (if (x4 ++ (⟨#[41]⟩ : ByteArray)).size + 4 ≤ 9223372036854775807 then ((spec_l06Type.f x355002).bind fun t361 => (if ((x4 ++ (⟨#[41]⟩ : ByteArray)) ++ (⟨#[32, 45, 62, 32]⟩ : ByteArray)).size + t361.size ≤ 9223372036854775807 then (spec_ShowProgram.j2 k (((x4 ++ (⟨#[41]⟩ : ByteArray)) ++ (⟨#[32, 45, 62, 32]⟩ : ByteArray)) ++ t361) x5 x352000 x352001 x355000 x355001 x355002 x355003 x355004) else (none))) else (none))) else (none))
def spec_ShowProgram.j2 : Nat → ByteArray → Int → List (S62) → List (S56) → ByteArray → List (S58) → Int → Int → Int → Option (ByteArray × Bool)
 | 0, _, _, _, _, _, _, _, _, _ => none
 | k + 1, x4, x5, x352000, x352001, x355000, x355001, x355002, x355003, x355004 => if x4.size + 3 ≤ 9223372036854775807 then ((spec_l06Block.f k x352000 x355003 1).bind fun t362 => (if (x4 ++ (⟨#[32, 123, 10]⟩ : ByteArray)).size + t362.size ≤ 9223372036854775807 then (if x355004 ≥ 0 then (if ((x4 ++ (⟨#[32, 123, 10]⟩ : ByteArray)) ++ t362).size + 6 ≤ 9223372036854775807 then ((spec_l06Value.f k x352000 x355004).bind fun t363 => (if (((x4 ++ (⟨#[32, 123, 10]⟩ : ByteArray)) ++ t362) ++ (⟨#[32, 32, 114, 101, 116, 32]⟩ : ByteArray)).size + t363.size ≤ 9223372036854775807 then (if ((((x4 ++ (⟨#[32, 123, 10]⟩ : ByteArray)) ++ t362) ++ (⟨#[32, 32, 114, 101, 116, 32]⟩ : ByteArray)) ++ t363).size + 2 ≤ 9223372036854775807 then (if (((((x4 ++ (⟨#[32, 123, 10]⟩ : ByteArray)) ++ t362) ++ (⟨#[32, 32, 114, 101, 116, 32]⟩ : ByteArray)) ++ t363) ++ (⟨#[59, 10]⟩ : ByteArray)).size + 2 ≤ 9223372036854775807 then (spec_ShowProgram.l0 k ((((((x4 ++ (⟨#[32, 123, 10]⟩ : ByteArray)) ++ t362) ++ (⟨#[32, 32, 114, 101, 116, 32]⟩ : ByteArray)) ++ t363) ++ (⟨#[59, 10]⟩ : ByteArray)) ++ (⟨#[125, 10]⟩ : ByteArray)) (wrap64 (x5 + 1)) x352000 x352001) else (none)) else (none)) else (none))) else (none)) else (if ((x4 ++ (⟨#[32, 123, 10]⟩ : ByteArray)) ++ t362).size + 2 ≤ 9223372036854775807 then (spec_ShowProgram.l0 k (((x4 ++ (⟨#[32, 123, 10]⟩ : ByteArray)) ++ t362) ++ (⟨#[125, 10]⟩ : ByteArray)) (wrap64 (x5 + 1)) x352000 x352001) else (none))) else (none))) else (none)
end
def spec_ShowProgram.f (k : Nat) (l0_0 : List (S62)) (l0_1 : List (S56)) : Option (ByteArray × Bool) := (spec_ProgramOk.f k l0_0 l0_1).bind fun t352 => (if t352 = true then (spec_ShowProgram.l0 k (⟨#[]⟩ : ByteArray) 0 l0_0 l0_1) else (some ((⟨#[]⟩ : ByteArray), false)))
theorem spec_ShowProgram.mono_l : ∀ k, (∀ y0 y1 y2 y3, LeO (spec_ShowProgram.l0 k y0 y1 y2 y3) (spec_ShowProgram.l0 (k + 1) y0 y1 y2 y3)) ∧ (∀ y0 y1 y2 y3 y4 y5 y6 y7 y8 y9, LeO (spec_ShowProgram.l1 k y0 y1 y2 y3 y4 y5 y6 y7 y8 y9) (spec_ShowProgram.l1 (k + 1) y0 y1 y2 y3 y4 y5 y6 y7 y8 y9)) ∧ (∀ y0 y1 y2 y3 y4 y5 y6 y7 y8, LeO (spec_ShowProgram.j2 k y0 y1 y2 y3 y4 y5 y6 y7 y8) (spec_ShowProgram.j2 (k + 1) y0 y1 y2 y3 y4 y5 y6 y7 y8))
 | 0 => ⟨fun _ _ _ _ r h => by simp [spec_ShowProgram.l0] at h, fun _ _ _ _ _ _ _ _ _ _ r h => by simp [spec_ShowProgram.l1] at h, fun _ _ _ _ _ _ _ _ _ r h => by simp [spec_ShowProgram.j2] at h⟩
 | k + 1 => by
  obtain ⟨ih0, ih1, ih2⟩ := spec_ShowProgram.mono_l k
  refine ⟨?_, ?_, ?_⟩
  ·
   intro y0 y1 y2 y3
   unfold spec_ShowProgram.l0
   with_reducible repeat' first | exact ih0 _ _ _ _ | exact ih1 _ _ _ _ _ _ _ _ _ _ | exact ih2 _ _ _ _ _ _ _ _ _ | exact spec_ProgramOk.mono _ _ _ | exact spec_l06Block.mono _ _ _ _ | exact spec_l06Value.mono _ _ _ | exact LeO.refl _ | exact LeO.none _ | refine LeO.ite ?_ ?_ | refine LeO.bind ?_ (fun _ => ?_)
  ·
   intro y0 y1 y2 y3 y4 y5 y6 y7 y8 y9
   unfold spec_ShowProgram.l1
   with_reducible repeat' first | exact ih0 _ _ _ _ | exact ih1 _ _ _ _ _ _ _ _ _ _ | exact ih2 _ _ _ _ _ _ _ _ _ | exact spec_ProgramOk.mono _ _ _ | exact spec_l06Block.mono _ _ _ _ | exact spec_l06Value.mono _ _ _ | exact LeO.refl _ | exact LeO.none _ | refine LeO.ite ?_ ?_ | refine LeO.bind ?_ (fun _ => ?_)
  ·
   intro y0 y1 y2 y3 y4 y5 y6 y7 y8
   unfold spec_ShowProgram.j2
   with_reducible repeat' first | exact ih0 _ _ _ _ | exact ih1 _ _ _ _ _ _ _ _ _ _ | exact ih2 _ _ _ _ _ _ _ _ _ | exact spec_ProgramOk.mono _ _ _ | exact spec_l06Block.mono _ _ _ _ | exact spec_l06Value.mono _ _ _ | exact LeO.refl _ | exact LeO.none _ | refine LeO.ite ?_ ?_ | refine LeO.bind ?_ (fun _ => ?_)
theorem spec_ShowProgram.mono : ∀ a0 a1 k, LeO (spec_ShowProgram.f k a0 a1) (spec_ShowProgram.f (k + 1) a0 a1) := by
 intro a0 a1 k; obtain ⟨ih0, ih1, ih2⟩ := spec_ShowProgram.mono_l k
 unfold spec_ShowProgram.f
 with_reducible repeat' first | exact ih0 _ _ _ _ | exact ih1 _ _ _ _ _ _ _ _ _ _ | exact ih2 _ _ _ _ _ _ _ _ _ | exact spec_ProgramOk.mono _ _ _ | exact spec_l06Block.mono _ _ _ _ | exact spec_l06Value.mono _ _ _ | exact LeO.refl _ | exact LeO.none _ | refine LeO.ite ?_ ?_ | refine LeO.bind ?_ (fun _ => ?_)
set_option maxHeartbeats 8000000 in
set_option maxRecDepth 100000 in
theorem spec_ShowProgram.calls (k : Nat) (A0_0 : Option Addr) (c0_0 : Nat) (l0_0 : List (S62)) (A0_1 : Option Addr) (c0_1 : Nat) (l0_1 : List (S56)) (r1 : ByteArray) (r2 : Bool) (w : World) (hr0_0 : Kd.C k62 w A0_0 l0_0.length l0_0) (hc0_0 : l0_0.length ≤ c0_0) (hr0_1 : Kd.C k56 w A0_1 l0_1.length l0_1) (hc0_1 : l0_1.length ≤ c0_1) (h : spec_ShowProgram.f k l0_0 l0_1 = some (r1, r2)) :
  Calls Tryz.prog 20 #[.agg #[.slice A0_0 l0_0.length c0_0, .slice A0_1 l0_1.length c0_1]] w fun e w' => e = .returned (.tuple #[.string r1, .bool r2]) ∧ Below w.heap.size w w' := by
 have hu32 := Tryz.underlying32; have hu56 := Tryz.underlying56; have HR0_0 := As.mk hr0_0; have HC0_0 := As.mk hc0_0; clear hr0_0 hc0_0; have HR0_1 := As.mk hr0_1; have HC0_1 := As.mk hc0_1; clear hr0_1 hc0_1; have HB := As.mk (Below.refl w.heap.size w); have H : ((spec_ProgramOk.f k l0_0 l0_1).bind fun t352 => (if t352 = true then (spec_ShowProgram.l0 k (⟨#[]⟩ : ByteArray) 0 l0_0 l0_1) else (some ((⟨#[]⟩ : ByteArray), false)))) = some (r1, r2) := h; clear h; replace H := bo H; obtain ⟨t352, A2, H⟩ := H
 by_cases c3 : t352 = true
 rotate_left
 ·
  replace c3 := Bool.eq_false_iff.mpr c3; subst c3; rw [if_neg ft] at H
  simp only [Option.some.injEq, Prod.mk.injEq] at H
  obtain ⟨rfl, rfl⟩ := H; go_enter Tryz.func20, Tryz.ntmps20
  go_wp2_with (first | ((with_reducible refine gate_dst (N := 1) rfl ?_); refine bxe 1 #[.slice A0_0 l0_0.length c0_0, .slice A0_1 l0_1.length c0_1] 32 ?_; intro gb351 hg w68 BK351 hb; have GW351 := As.mk (gs w hg); replace HB := bs w hb; clear hb hg; obtain ⟨y69a, y69b, v69a, v69b⟩ := cl2 BK351.out) | (go_at_call 49; (with_reducible refine (spec_ProgramOk.calls k _ _ l0_0 _ _ l0_1 false _ (cb HR0_0) HC0_0.out (cb HR0_1) HC0_1.out A2.out).mono ?_); rintro e w70 ⟨rfl, hb⟩; replace HB := bs w hb; (try clear hb)))
  go_ret2
  exact ⟨ez, be w⟩

 subst c3; rw [if_pos rfl] at H; have H' := As.mk H; clear H; go_enter Tryz.func20, Tryz.ntmps20
 go_wp2_with (first | ((with_reducible refine gate_dst (N := 1) rfl ?_); refine bxe 1 #[.slice A0_0 l0_0.length c0_0, .slice A0_1 l0_1.length c0_1] 32 ?_; intro gb351 hg w4 BK351 hb; have GW351 := As.mk (gs w hg); replace HB := bs w hb; clear hb hg; obtain ⟨y5a, y5b, v5a, v5b⟩ := cl2 BK351.out) | (go_at_call 49; (with_reducible refine (spec_ProgramOk.calls k _ _ l0_0 _ _ l0_1 true _ (cb HR0_0) HC0_0.out (cb HR0_1) HC0_1.out A2.out).mono ?_); rintro e w6 ⟨rfl, hb⟩; replace BK351 := bb BK351 hb; replace HB := bs w hb; (try clear hb)))
 go_loopg [4, 5] k (fun kq v4 v5 w' => ∃ (x4_1 : ByteArray) (x5_1 : Int), v4 = .string x4_1 ∧ v5 = .int .i64 x5_1 ∧ As (spec_ShowProgram.l0 kq x4_1 x5_1 l0_0 l0_1 = some (r1, r2)) ∧ As (kq ≤ k) ∧ As (w'.heap[gb351]? = some (.cells #[(.slice A0_0 l0_0.length c0_0), (.slice A0_1 l0_1.length c0_1)] 32 (0, 0))) ∧ As (Below w.heap.size w w'))
 case atStart => exact ⟨((⟨#[]⟩ : ByteArray)), (0), (by first | rfl | (simp; done) | (simp [*]; done)), (by first | rfl | (simp; done) | (simp [*]; done)), H', ⟨Nat.le_refl _⟩, ⟨bx BK351.out⟩, ⟨be w⟩⟩
 case round =>
  clear H'; (try clear c3); (try clear y5a); (try clear y5b); (try clear v5a); (try clear v5b); obtain ⟨x4_1, x5_1, rfl, rfl, HA, HK1, BK351, HB⟩ := hrel
  cases gk with
  | zero => exact absurd HA.out (by simp [spec_ShowProgram.l0])
  | succ k1 =>
   have H := HA.out; clear HA
   simp only [spec_ShowProgram.l0] at H
   by_cases c7 : x5_1 < (l0_1.length : Int)
   rotate_left
   ·
    rw [if_neg c7] at H; have c7b0 := decide_eq_false c7; clear c7
    by_cases c65 : (x4_1.size : Int) > 3000
    ·
     rw [if_pos c65] at H; have c65b0 : decide (3000 < (x4_1.size : Int)) = true := decide_eq_true c65; have c65b1 : decide (3000 < x4_1.size) = true := decide_eq_true (by omega); clear c65
     simp only [Option.some.injEq, Prod.mk.injEq] at H
     obtain ⟨rfl, rfl⟩ := H; obtain ⟨y66a, y66b, v66a, v66b⟩ := cl2 BK351.out
     go_wp2
     go_ret2
     exact ⟨ez, be w⟩
    rw [if_neg c65] at H; have c65b0 : decide (3000 < (x4_1.size : Int)) = false := decide_eq_false c65; have c65b1 : decide (3000 < x4_1.size) = false := decide_eq_false (by omega); clear c65
    simp only [Option.some.injEq, Prod.mk.injEq] at H
    obtain ⟨rfl, rfl⟩ := H; obtain ⟨y67a, y67b, v67a, v67b⟩ := cl2 BK351.out
    go_wp2
    go_ret2
    exact ⟨ez, be w⟩
   rw [if_pos c7] at H; have c7b0 := decide_eq_true c7; clear c7; replace H := ia H; obtain ⟨c8b0, H⟩ := H; replace H := il H; obtain ⟨c9, c9b0, c9b1, c9b2, H⟩ := H; replace H := il H; obtain ⟨c10, c10b0, c10b1, c10b2, H⟩ := H
   try have c10b4 : (9223372036854775807 < x4_1.size + 3 + ((rd_T56 l0_1 x5_1).f0).size) = False := eq_false (Nat.not_lt.2 (by have h_ := c10; simp only [ByteArray.size_append] at h_; exact h_))
   replace H := il H; obtain ⟨c11, c11b0, c11b1, c11b2, H⟩ := H
   try have c11b4 : (9223372036854775807 < x4_1.size + 3 + ((rd_T56 l0_1 x5_1).f0).size + 1) = False := eq_false (Nat.not_lt.2 (by have h_ := c11; simp only [ByteArray.size_append] at h_; exact h_))
   have H' := As.mk H; clear H; obtain ⟨y12a, y12b, v12a, v12b⟩ := cl2 BK351.out; obtain ⟨ad353, A353_1, c353_1, e353, p353, q353, x353a, x353b, x353c, x353d, x353e, HC353_1, HR353_1⟩ := bt_T56 HB.out HR0_1.out x5_1 od od; cases e353
   go_wp2_with (first | ((with_reducible refine gate_dst (N := 6) rfl ?_); refine bxe 6 #[.string (⟨#[]⟩ : ByteArray), .slice none 0 0, .int .i64 0, .int .i64 0, .int .i64 0] 56 ?_; intro gb354 hg w13 BK354 hb; have GW354 := As.mk (gs w hg); replace HB := bs w hb; have NB351_354 := As.mk (nl hg (bx BK351.out)); have NB354_351 := As.mk (ng hg (bx BK351.out)); replace BK351 := bb BK351 hb; clear hb hg; have hnb14 := NB354_351.out; have hnc14 := NB351_354.out; obtain ⟨y15a, y15b, y15c, y15d, y15e, v15a, v15b, v15c, v15d, v15e⟩ := cl5 BK354.out))
   go_loopg [4, 7] k1 (fun kq v4 v7 w' => ∃ (x4_2 : ByteArray) (x7_2 : Int), v4 = .string x4_2 ∧ v7 = .int .i64 x7_2 ∧ As (spec_ShowProgram.l1 kq x4_2 x5_1 x7_2 l0_0 l0_1 ((rd_T56 l0_1 x5_1).f0) ((rd_T56 l0_1 x5_1).f1) ((rd_T56 l0_1 x5_1).f2) ((rd_T56 l0_1 x5_1).f3) ((rd_T56 l0_1 x5_1).f4) = some (r1, r2)) ∧ As (kq ≤ k1) ∧ As (w'.heap[gb351]? = some (.cells #[(.slice A0_0 l0_0.length c0_0), (.slice (some ad353) l0_1.length c0_1)] 32 (0, 0))) ∧ As (w'.heap[gb354]? = some (.cells #[.string ((rd_T56 l0_1 x5_1).f0), (.slice A353_1 ((rd_T56 l0_1 x5_1).f1).length c353_1), .int .i64 ((rd_T56 l0_1 x5_1).f2), .int .i64 ((rd_T56 l0_1 x5_1).f3), .int .i64 ((rd_T56 l0_1 x5_1).f4)] 56 (0, 0))) ∧ As (Below w.heap.size w w'))
   case atStart => exact ⟨(((x4_1 ++ (⟨#[102, 110, 32]⟩ : ByteArray)) ++ ((rd_T56 l0_1 x5_1).f0)) ++ (⟨#[40]⟩ : ByteArray)), (0), (by first | rfl | (simp; done) | (simp [*]; done)), (by first | rfl | (simp; done) | (simp [*]; done)), H', ⟨Nat.le_refl _⟩, ⟨by refine pl ?_; refine blk_far ?_ NB351_354.out _; refine pl ?_; refine blk_far ?_ NB351_354.out _; refine pl ?_; refine blk_far ?_ NB351_354.out _; refine pl ?_; refine blk_far ?_ NB351_354.out _; refine pl ?_; refine blk_far ?_ NB351_354.out _; exact bx BK351.out⟩, ⟨by exact pl (bp5 (bx BK354.out))⟩, ⟨be w⟩⟩
   case round =>
    clear H'; (try clear c3); (try clear c7); (try clear c7b0); (try clear c8); (try clear c8b0); (try clear c9); (try clear c9b0); (try clear c9b1); (try clear c9b2); (try clear c10); (try clear c10b0); (try clear c10b1); (try clear c10b2); (try clear c11); (try clear c11b0); (try clear c11b1); (try clear c11b2); (try clear y12a); (try clear y12b); (try clear y15a); (try clear y15b); (try clear y15c); (try clear y15d); (try clear y15e); (try clear y5a); (try clear y5b); (try clear v12a); (try clear v12b); (try clear v15a); (try clear v15b); (try clear v15c); (try clear v15d); (try clear v15e); (try clear v5a); (try clear v5b); (try clear x353a); (try clear x353b); (try clear x353c); (try clear x353d); (try clear x353e); (try clear p353); (try clear q353); obtain ⟨x4_2, x7_2, rfl, rfl, HA, HK2, BK351, BK354, HB⟩ := hrel
    cases gk with
    | zero => exact absurd HA.out (by simp [spec_ShowProgram.l1])
    | succ k2 =>
     have H := HA.out; clear HA
     simp only [spec_ShowProgram.l1] at H
     by_cases c16 : x7_2 < (((rd_T56 l0_1 x5_1).f1).length : Int)
     ·
      rw [if_pos c16] at H; have c16b0 := decide_eq_true c16; clear c16
      by_cases c17 : x7_2 > 0
      rotate_left
      ·
       rw [if_neg c17] at H; have c17b0 : decide (0 < x7_2) = false := decide_eq_false c17; clear c17; replace H := ia H; obtain ⟨c26b0, H⟩ := H; replace H := il H; obtain ⟨c27, c27b0, c27b1, c27b2, H⟩ := H; replace H := il H; obtain ⟨c28, c28b0, c28b1, c28b2, H⟩ := H
       try have c28b4 : (9223372036854775807 < x4_2.size + ((rd_T58 ((rd_T56 l0_1 x5_1).f1) x7_2).f0).size + 2) = False := eq_false (Nat.not_lt.2 (by have h_ := c28; simp only [ByteArray.size_append] at h_; exact h_))
       replace H := bo H; obtain ⟨t360, A29, H⟩ := H; replace H := il H; obtain ⟨c30, c30b0, c30b1, c30b2, H⟩ := H
       try have c30b4 : (9223372036854775807 < x4_2.size + ((rd_T58 ((rd_T56 l0_1 x5_1).f1) x7_2).f0).size + 2 + t360.size) = False := eq_false (Nat.not_lt.2 (by have h_ := c30; simp only [ByteArray.size_append] at h_; exact h_))
       have H' := As.mk H; clear H; have hnb31 := NB354_351.out; have hnc31 := NB351_354.out; obtain ⟨y32a, y32b, y32c, y32d, y32e, v32a, v32b, v32c, v32d, v32e⟩ := cl5 BK354.out; obtain ⟨ad358, e358, p358, q358, x358a, x358b⟩ := bt_T58 HB.out HR353_1.out x7_2 od od; cases e358; have p359 : 0 ≤ (x7_2 : Int) := od; have q359 : x7_2 < (((rd_T56 l0_1 x5_1).f1).length : Int) := od; obtain ⟨ad359, e359, x359a, x359b⟩ := at_T58 HR353_1.out x7_2 p359 q359; obtain rfl : ad358 = ad359 := (by injection e359); replace x359a := ce HB.out x359a; replace x359b := ce HB.out x359b; replace p359 := eq_true p359; replace q359 := eq_true q359
       go_wp2
       (try go_quiet (first | (go_at_call 50; (with_reducible refine (spec_l06Type.calls ((rd_T58 ((rd_T56 l0_1 x5_1).f1) x7_2).f1) t360 _ A29.out).mono ?_); rintro e w' ⟨rfl, ⟨nd, rfl⟩⟩; (try first | exact ⟨rfl, _, World.drewN_drewN _ _ _⟩ | exact ⟨rfl, _, Eq.trans (World.drewN_drewN _ _ _) (congrArg (World.drewN _) (Nat.add_assoc _ _ _))⟩))))
       try go_wp2
       go_roundg k2
       case measure => have := HK1.out; have := HK2.out; omega
       case rel => exact ⟨(((x4_2 ++ ((rd_T58 ((rd_T56 l0_1 x5_1).f1) x7_2).f0)) ++ (⟨#[58, 32]⟩ : ByteArray)) ++ t360), (wrap64 (x7_2 + 1)), (by first | rfl | (simp; done) | (simp [*]; done)), (by first | rfl | (simp; done) | (simp [*]; done)), H', ⟨by have := HK1.out; have := HK2.out; omega⟩, ⟨bx BK351.out⟩, ⟨bx BK354.out⟩, ⟨be w⟩⟩
      rw [if_pos c17] at H; have c17b0 : decide (0 < x7_2) = true := decide_eq_true c17; clear c17; replace H := il H; obtain ⟨c18, c18b0, c18b1, c18b2, H⟩ := H; replace H := ia H; obtain ⟨c19b0, H⟩ := H; replace H := il H; obtain ⟨c20, c20b0, c20b1, c20b2, H⟩ := H
      try have c20b4 : (9223372036854775807 < x4_2.size + 2 + ((rd_T58 ((rd_T56 l0_1 x5_1).f1) x7_2).f0).size) = False := eq_false (Nat.not_lt.2 (by have h_ := c20; simp only [ByteArray.size_append] at h_; exact h_))
      replace H := il H; obtain ⟨c21, c21b0, c21b1, c21b2, H⟩ := H
      try have c21b4 : (9223372036854775807 < x4_2.size + 2 + ((rd_T58 ((rd_T56 l0_1 x5_1).f1) x7_2).f0).size + 2) = False := eq_false (Nat.not_lt.2 (by have h_ := c21; simp only [ByteArray.size_append] at h_; exact h_))
      replace H := bo H; obtain ⟨t357, A22, H⟩ := H; replace H := il H; obtain ⟨c23, c23b0, c23b1, c23b2, H⟩ := H
      try have c23b4 : (9223372036854775807 < x4_2.size + 2 + ((rd_T58 ((rd_T56 l0_1 x5_1).f1) x7_2).f0).size + 2 + t357.size) = False := eq_false (Nat.not_lt.2 (by have h_ := c23; simp only [ByteArray.size_append] at h_; exact h_))
      have H' := As.mk H; clear H; have hnb24 := NB354_351.out; have hnc24 := NB351_354.out; obtain ⟨y25a, y25b, y25c, y25d, y25e, v25a, v25b, v25c, v25d, v25e⟩ := cl5 BK354.out; obtain ⟨ad355, e355, p355, q355, x355a, x355b⟩ := bt_T58 HB.out HR353_1.out x7_2 od od; cases e355; have p356 : 0 ≤ (x7_2 : Int) := od; have q356 : x7_2 < (((rd_T56 l0_1 x5_1).f1).length : Int) := od; obtain ⟨ad356, e356, x356a, x356b⟩ := at_T58 HR353_1.out x7_2 p356 q356; obtain rfl : ad355 = ad356 := (by injection e356); replace x356a := ce HB.out x356a; replace x356b := ce HB.out x356b; replace p356 := eq_true p356; replace q356 := eq_true q356
      go_wp2
      (try go_quiet (first | (go_at_call 50; (with_reducible refine (spec_l06Type.calls ((rd_T58 ((rd_T56 l0_1 x5_1).f1) x7_2).f1) t357 _ A22.out).mono ?_); rintro e w' ⟨rfl, ⟨nd, rfl⟩⟩; (try first | exact ⟨rfl, _, World.drewN_drewN _ _ _⟩ | exact ⟨rfl, _, Eq.trans (World.drewN_drewN _ _ _) (congrArg (World.drewN _) (Nat.add_assoc _ _ _))⟩))))
      try go_wp2
      go_roundg k2
      case measure => have := HK1.out; have := HK2.out; omega
      case rel => exact ⟨((((x4_2 ++ (⟨#[44, 32]⟩ : ByteArray)) ++ ((rd_T58 ((rd_T56 l0_1 x5_1).f1) x7_2).f0)) ++ (⟨#[58, 32]⟩ : ByteArray)) ++ t357), (wrap64 (x7_2 + 1)), (by first | rfl | (simp; done) | (simp [*]; done)), (by first | rfl | (simp; done) | (simp [*]; done)), H', ⟨by have := HK1.out; have := HK2.out; omega⟩, ⟨bx BK351.out⟩, ⟨bx BK354.out⟩, ⟨be w⟩⟩
     rw [if_neg c16] at H; have c16b0 := decide_eq_false c16; clear c16; replace H := il H; obtain ⟨c33, c33b0, c33b1, c33b2, H⟩ := H; have HC34 := As.mk H; clear H; have hnb35 := NB354_351.out; have hnc35 := NB351_354.out; obtain ⟨y36a, y36b, y36c, y36d, y36e, v36a, v36b, v36c, v36d, v36e⟩ := cl5 BK354.out
     go_upto_if 61 with (fail)
     repeat (go_quiet (fail); go_upto_if 61 with (fail))
     go_cut [4] (fun v4 wc => ∃ (kq : Nat) (x4_33 : ByteArray), v4 = .string x4_33 ∧ As (spec_ShowProgram.j2 kq x4_33 x5_1 l0_0 l0_1 ((rd_T56 l0_1 x5_1).f0) ((rd_T56 l0_1 x5_1).f1) ((rd_T56 l0_1 x5_1).f2) ((rd_T56 l0_1 x5_1).f3) ((rd_T56 l0_1 x5_1).f4) = some (r1, r2)) ∧ As (kq ≤ k2) ∧ As (wc.heap[gb351]? = some (.cells #[(.slice A0_0 l0_0.length c0_0), (.slice (some ad353) l0_1.length c0_1)] 32 (0, 0))) ∧ As (wc.heap[gb354]? = some (.cells #[.string ((rd_T56 l0_1 x5_1).f0), (.slice A353_1 ((rd_T56 l0_1 x5_1).f1).length c353_1), .int .i64 ((rd_T56 l0_1 x5_1).f2), .int .i64 ((rd_T56 l0_1 x5_1).f3), .int .i64 ((rd_T56 l0_1 x5_1).f4)] 56 (0, 0))) ∧ As (Below w.heap.size w wc))
     case first =>
      have H := HC34.out; clear HC34
      by_cases c37 : ((rd_T56 l0_1 x5_1).f2) = 0
      ·
       rw [if_pos c37] at H; have c37b0 : (((rd_T56 l0_1 x5_1).f2) == 0) = true := beq_iff_eq.mpr c37; have c37b1 : (((rd_T56 l0_1 x5_1).f2) != 0) = false := bne_eq_false_iff_eq.mpr c37; clear c37
       (first | rw [c37b0] | (simp only [i64_w, i32_w]; rw [c37b0]) | skip)
       have H' := As.mk H; clear H
       go_wp2
       go_meet
       case rel => exact ⟨_, (x4_2 ++ (⟨#[41]⟩ : ByteArray)), (by first | rfl | (simp; done) | (simp [*]; done)), H', ⟨by have := HK1.out; have := HK2.out; first | omega | exact Nat.le_refl _⟩, ⟨bx BK351.out⟩, ⟨bx BK354.out⟩, ⟨be w⟩⟩
      rw [if_neg c37] at H; have c37b0 : (((rd_T56 l0_1 x5_1).f2) == 0) = false := beq_eq_false_iff_ne.mpr c37; have c37b1 : (((rd_T56 l0_1 x5_1).f2) != 0) = true := bne_iff_ne.mpr c37
      (first | rw [c37b0] | (simp only [i64_w, i32_w]; rw [c37b0]) | skip)
      replace H := il H; obtain ⟨c38, c38b0, c38b1, c38b2, H⟩ := H
      try have c38b4 : (9223372036854775807 < x4_2.size + 1 + 4) = False := eq_false (Nat.not_lt.2 (by have h_ := c38; simp only [ByteArray.size_append] at h_; exact h_))
      replace H := bo H; obtain ⟨t361, A39, H⟩ := H; replace H := il H; obtain ⟨c40, c40b0, c40b1, c40b2, H⟩ := H
      try have c40b4 : (9223372036854775807 < x4_2.size + 1 + 4 + t361.size) = False := eq_false (Nat.not_lt.2 (by have h_ := c40; simp only [ByteArray.size_append] at h_; exact h_))
      have H' := As.mk H; clear H; have hnb41 := NB354_351.out; have hnc41 := NB351_354.out; obtain ⟨y42a, y42b, y42c, y42d, y42e, v42a, v42b, v42c, v42d, v42e⟩ := cl5 BK354.out
      go_wp2_with (first | (go_at_call 50; (with_reducible refine (spec_l06Type.calls ((rd_T56 l0_1 x5_1).f2) t361 _ A39.out).mono ?_); rintro e w' ⟨rfl, ⟨nd, rfl⟩⟩; (try first | exact ⟨rfl, _, World.drewN_drewN _ _ _⟩ | exact ⟨rfl, _, Eq.trans (World.drewN_drewN _ _ _) (congrArg (World.drewN _) (Nat.add_assoc _ _ _))⟩)))
      go_meet
      case rel => exact ⟨_, (((x4_2 ++ (⟨#[41]⟩ : ByteArray)) ++ (⟨#[32, 45, 62, 32]⟩ : ByteArray)) ++ t361), (by first | rfl | (simp; done) | (simp [*]; done)), H', ⟨by have := HK1.out; have := HK2.out; first | omega | exact Nat.le_refl _⟩, ⟨bx BK351.out⟩, ⟨bx BK354.out⟩, ⟨be w⟩⟩
     case rest =>
      clear HC34; (try clear c3); (try clear c7); (try clear c7b0); (try clear c8); (try clear c8b0); (try clear c9); (try clear c9b0); (try clear c9b1); (try clear c9b2); (try clear c10); (try clear c10b0); (try clear c10b1); (try clear c10b2); (try clear c11); (try clear c11b0); (try clear c11b1); (try clear c11b2); (try clear c16); (try clear c16b0); (try clear c33); (try clear c33b0); (try clear c33b1); (try clear c33b2); (try clear y12a); (try clear y12b); (try clear y15a); (try clear y15b); (try clear y15c); (try clear y15d); (try clear y15e); (try clear y36a); (try clear y36b); (try clear y36c); (try clear y36d); (try clear y36e); (try clear y5a); (try clear y5b); (try clear v12a); (try clear v12b); (try clear v15a); (try clear v15b); (try clear v15c); (try clear v15d); (try clear v15e); (try clear v36a); (try clear v36b); (try clear v36c); (try clear v36d); (try clear v36e); (try clear v5a); (try clear v5b); (try clear x353a); (try clear x353b); (try clear x353c); (try clear x353d); (try clear x353e); (try clear p353); (try clear q353); obtain ⟨kq, x4_33, rfl, HA, HJ33, BK351, BK354, HB⟩ := hcut
      cases kq with
      | zero => exact absurd HA.out (by simp [spec_ShowProgram.j2])
      | succ kj33 =>
       have H := HA.out; clear HA
       simp only [spec_ShowProgram.j2] at H
       replace H := il H; obtain ⟨c43, c43b0, c43b1, c43b2, H⟩ := H; replace H := bo H; obtain ⟨t362, A44, H⟩ := H; replace H := il H; obtain ⟨c45, c45b0, c45b1, c45b2, H⟩ := H
       try have c45b4 : (9223372036854775807 < x4_33.size + 3 + t362.size) = False := eq_false (Nat.not_lt.2 (by have h_ := c45; simp only [ByteArray.size_append] at h_; exact h_))
       by_cases c46 : ((rd_T56 l0_1 x5_1).f4) ≥ 0
       rotate_left
       ·
        rw [if_neg c46] at H; have c46b0 : decide (0 ≤ ((rd_T56 l0_1 x5_1).f4)) = false := decide_eq_false c46; clear c46; replace H := il H; obtain ⟨c59, c59b0, c59b1, c59b2, H⟩ := H
        try have c59b4 : (9223372036854775807 < x4_33.size + 3 + t362.size + 2) = False := eq_false (Nat.not_lt.2 (by have h_ := c59; simp only [ByteArray.size_append] at h_; exact h_))
        have H' := As.mk H; clear H; have hnb60 := NB351_354.out; have hnc60 := NB354_351.out; obtain ⟨y61a, y61b, v61a, v61b⟩ := cl2 BK351.out; obtain ⟨y62a, y62b, y62c, y62d, y62e, v62a, v62b, v62c, v62d, v62e⟩ := cl5 BK354.out
        go_wp2_with (first | (go_at_call 51; (with_reducible refine (spec_l06Block.calls kj33 _ _ l0_0 ((rd_T56 l0_1 x5_1).f3) 1 t362 _ (cb HR0_0) HC0_0.out A44.out).mono ?_); rintro e w63 ⟨rfl, hb⟩; replace BK351 := bb BK351 hb; replace BK354 := bb BK354 hb; replace HB := bs w hb; (try clear hb); obtain ⟨y64a, y64b, y64c, y64d, y64e, v64a, v64b, v64c, v64d, v64e⟩ := cl5 BK354.out))
        go_roundg kj33
        case measure => have := HK1.out; have := HK2.out; have := HJ33.out; omega
        case rel => exact ⟨(((x4_33 ++ (⟨#[32, 123, 10]⟩ : ByteArray)) ++ t362) ++ (⟨#[125, 10]⟩ : ByteArray)), (wrap64 (x5_1 + 1)), (by first | rfl | (simp; done) | (simp [*]; done)), (by first | rfl | (simp; done) | (simp [*]; done)), H', ⟨by have := HK1.out; have := HK2.out; have := HJ33.out; omega⟩, ⟨bx BK351.out⟩, ⟨be w⟩⟩
       rw [if_pos c46] at H; have c46b0 : decide (0 ≤ ((rd_T56 l0_1 x5_1).f4)) = true := decide_eq_true c46; clear c46; replace H := il H; obtain ⟨c47, c47b0, c47b1, c47b2, H⟩ := H
       try have c47b4 : (9223372036854775807 < x4_33.size + 3 + t362.size + 6) = False := eq_false (Nat.not_lt.2 (by have h_ := c47; simp only [ByteArray.size_append] at h_; exact h_))
       replace H := bo H; obtain ⟨t363, A48, H⟩ := H; replace H := il H; obtain ⟨c49, c49b0, c49b1, c49b2, H⟩ := H
       try have c49b4 : (9223372036854775807 < x4_33.size + 3 + t362.size + 6 + t363.size) = False := eq_false (Nat.not_lt.2 (by have h_ := c49; simp only [ByteArray.size_append] at h_; exact h_))
       replace H := il H; obtain ⟨c50, c50b0, c50b1, c50b2, H⟩ := H
       try have c50b4 : (9223372036854775807 < x4_33.size + 3 + t362.size + 6 + t363.size + 2) = False := eq_false (Nat.not_lt.2 (by have h_ := c50; simp only [ByteArray.size_append] at h_; exact h_))
       replace H := il H; obtain ⟨c51, c51b0, c51b1, c51b2, H⟩ := H
       try have c51b4 : (9223372036854775807 < x4_33.size + 3 + t362.size + 6 + t363.size + 2 + 2) = False := eq_false (Nat.not_lt.2 (by have h_ := c51; simp only [ByteArray.size_append] at h_; exact h_))
       have H' := As.mk H; clear H; have hnb52 := NB351_354.out; have hnc52 := NB354_351.out; obtain ⟨y53a, y53b, v53a, v53b⟩ := cl2 BK351.out; obtain ⟨y54a, y54b, y54c, y54d, y54e, v54a, v54b, v54c, v54d, v54e⟩ := cl5 BK354.out
       go_wp2_with (first | (go_at_call 51; (with_reducible refine (spec_l06Block.calls kj33 _ _ l0_0 ((rd_T56 l0_1 x5_1).f3) 1 t362 _ (cb HR0_0) HC0_0.out A44.out).mono ?_); rintro e w55 ⟨rfl, hb⟩; replace BK351 := bb BK351 hb; replace BK354 := bb BK354 hb; replace HB := bs w hb; (try clear hb); obtain ⟨y56a, y56b, y56c, y56d, y56e, v56a, v56b, v56c, v56d, v56e⟩ := cl5 BK354.out; obtain ⟨y57a, y57b, v57a, v57b⟩ := cl2 BK351.out) | (go_at_call 52; (with_reducible refine (spec_l06Value.calls kj33 _ _ l0_0 ((rd_T56 l0_1 x5_1).f4) t363 _ (cb HR0_0) HC0_0.out A48.out).mono ?_); rintro e w58 ⟨rfl, hb⟩; replace BK351 := bb BK351 hb; replace HB := bs w hb; (try clear hb)))
       go_roundg kj33
       case measure => have := HK1.out; have := HK2.out; have := HJ33.out; omega
       case rel => exact ⟨((((((x4_33 ++ (⟨#[32, 123, 10]⟩ : ByteArray)) ++ t362) ++ (⟨#[32, 32, 114, 101, 116, 32]⟩ : ByteArray)) ++ t363) ++ (⟨#[59, 10]⟩ : ByteArray)) ++ (⟨#[125, 10]⟩ : ByteArray)), (wrap64 (x5_1 + 1)), (by first | rfl | (simp; done) | (simp [*]; done)), (by first | rfl | (simp; done) | (simp [*]; done)), H', ⟨by have := HK1.out; have := HK2.out; have := HJ33.out; omega⟩, ⟨bx BK351.out⟩, ⟨be w⟩⟩
/-! ### impl_in: function 36 -/
def impl_in.f (a0 : Int) (a1 : Int) (a2 : Int) : Option (Bool) := if a0 ≥ a1 then (some (decide (a0 ≤ a2))) else (some false)
set_option maxHeartbeats 8000000 in
set_option maxRecDepth 100000 in
theorem impl_in.calls (a0 : Int) (a1 : Int) (a2 : Int) (r : Bool) (w : World) (h : impl_in.f a0 a1 a2 = some r) :
  Calls Tryz.prog 36 #[.int .i64 a0, .int .i64 a1, .int .i64 a2] w fun e w' => e = .returned (.bool r) ∧ Drawn0 w w' := by
 have H : (if a0 ≥ a1 then (some (decide (a0 ≤ a2))) else (some false)) = some r := h; clear h
 by_cases c4 : a0 ≥ a1
 ·
  rw [if_pos c4] at H; have c4b0 : decide (a1 ≤ a0) = true := decide_eq_true c4; clear c4; obtain rfl := sj H; go_enter Tryz.func36, Tryz.ntmps36
  go_wp2
  go_ret
  exact dw
 rw [if_neg c4] at H; have c4b0 : decide (a1 ≤ a0) = false := decide_eq_false c4; clear c4; obtain rfl := sj H; go_enter Tryz.func36, Tryz.ntmps36
 go_wp2
 go_ret
 exact dw

/-! ### impl_hasInt: function 87 -/
def impl_hasInt.l0 : Nat → Int → List Int → Int → Int → Option (Bool)
 | 0, _, _, _, _ => none
 | k + 1, x1, x7, x8, x9 => if x9 < x8 then (if 0 ≤ x9 then (if x9 < (x7.length : Int) then (if (rd x7 x9) = x1 then (some true) else (impl_hasInt.l0 k x1 x7 x8 (wrap64 (x9 + 1)))) else (none)) else (none)) else (some false)
def impl_hasInt.f (k : Nat) (l0 : List Int) (a1 : Int) : Option (Bool) := impl_hasInt.l0 k a1 l0 (l0.length : Int) 0
theorem impl_hasInt.mono_l : ∀ k, (∀ y0 y1 y2 y3, LeO (impl_hasInt.l0 k y0 y1 y2 y3) (impl_hasInt.l0 (k + 1) y0 y1 y2 y3))
 | 0 => fun _ _ _ _ r h => by simp [impl_hasInt.l0] at h
 | k + 1 => by
  have ih0 := impl_hasInt.mono_l k
  ·
   intro y0 y1 y2 y3
   unfold impl_hasInt.l0
   with_reducible repeat' first | exact ih0 _ _ _ _ | exact LeO.refl _ | exact LeO.none _ | refine LeO.ite ?_ ?_ | refine LeO.bind ?_ (fun _ => ?_)
theorem impl_hasInt.mono : ∀ a0 a1 k, LeO (impl_hasInt.f k a0 a1) (impl_hasInt.f (k + 1) a0 a1) := by
 intro a0 a1 k; have ih0 := impl_hasInt.mono_l k
 unfold impl_hasInt.f
 with_reducible repeat' first | exact ih0 _ _ _ _ | exact LeO.refl _ | exact LeO.none _ | refine LeO.ite ?_ ?_ | refine LeO.bind ?_ (fun _ => ?_)
set_option maxHeartbeats 8000000 in
set_option maxRecDepth 100000 in
theorem impl_hasInt.calls (k : Nat) (A0 : Option Addr) (c0 : Nat) (l0 : List Int) (a1 : Int) (r : Bool) (w : World) (hr0 : Kd.C (Kd.int .i64) w A0 l0.length l0) (hc0 : l0.length ≤ c0) (h : impl_hasInt.f k l0 a1 = some r) :
  Calls Tryz.prog 87 #[.slice A0 l0.length c0, .int .i64 a1] w fun e w' => e = .returned (.bool r) ∧ Drawn0 w w' := by
 have HR0 := As.mk hr0; have HC0 := As.mk hc0; clear hr0 hc0; have H : (impl_hasInt.l0 k a1 l0 (l0.length : Int) 0) = some r := h; clear h; have H' := As.mk H; clear H; go_enter Tryz.func87, Tryz.ntmps87
 go_wp2
 go_loopg [9] k (fun kq v9 w' => ∃ (x9_1 : Int), v9 = .int .i64 x9_1 ∧ As (impl_hasInt.l0 kq a1 l0 (l0.length : Int) x9_1 = some r) ∧ As (kq ≤ k) ∧ Drawn0 w w')
 case atStart => exact ⟨(0), (by first | rfl | (simp; done) | (simp [*]; done)), H', ⟨Nat.le_refl _⟩, by repeat (first | exact Drawn0.refl _ | apply Drawn0.step)⟩
 case round =>
  clear H'; obtain ⟨x9_1, rfl, HA, HK1, ⟨m1, rfl⟩⟩ := hrel
  cases gk with
  | zero => exact absurd HA.out (by simp [impl_hasInt.l0])
  | succ k1 =>
   have H := HA.out; clear HA
   simp only [impl_hasInt.l0] at H
   by_cases c3 : x9_1 < (l0.length : Int)
   rotate_left
   ·
    rw [if_neg c3] at H; have c3b0 := decide_eq_false c3; clear c3; obtain rfl := sj H
    go_wp2
    go_ret
    exact dw

   rw [if_pos c3] at H; have c3b0 := decide_eq_true c3; clear c3; replace H := ia H; obtain ⟨c4b0, H⟩ := H; replace H := ia H; obtain ⟨c5b0, H⟩ := H
   by_cases c6 : (rd l0 x9_1) = a1
   ·
    rw [if_pos c6] at H; have c6b0 : ((rd l0 x9_1) == a1) = true := beq_iff_eq.mpr c6; have c6b1 : ((rd l0 x9_1) != a1) = false := bne_eq_false_iff_eq.mpr c6; clear c6; obtain rfl := sj H; have p364 : 0 ≤ (x9_1 : Int) := od; have q364 : x9_1 < (l0.length : Int) := od; obtain ⟨ad364, e364, x364a⟩ := Kd.at_int HR0.out x9_1 p364 q364; cases e364; replace p364 := eq_true p364; replace q364 := eq_true q364
    go_wp2
    go_ret
    exact dw
   rw [if_neg c6] at H; have c6b0 : ((rd l0 x9_1) == a1) = false := beq_eq_false_iff_ne.mpr c6; have c6b1 : ((rd l0 x9_1) != a1) = true := bne_iff_ne.mpr c6; have H' := As.mk H; clear H; have p364 : 0 ≤ (x9_1 : Int) := od; have q364 : x9_1 < (l0.length : Int) := od; obtain ⟨ad364, e364, x364a⟩ := Kd.at_int HR0.out x9_1 p364 q364; cases e364; replace p364 := eq_true p364; replace q364 := eq_true q364
   go_wp2
   go_roundg k1
   case measure => have := HK1.out; omega
   case rel => exact ⟨(wrap64 (x9_1 + 1)), (by first | rfl | (simp; done) | (simp [*]; done)), H', ⟨by have := HK1.out; omega⟩, by repeat (first | exact Drawn0.refl _ | apply Drawn0.step)⟩
/-! ### impl_isLetter: function 127 -/
def impl_isLetter.f (a0 : Int) : Option (Bool) := if a0 ≥ 97 then (some (decide (a0 ≤ 122))) else (some false)
set_option maxHeartbeats 8000000 in
set_option maxRecDepth 100000 in
theorem impl_isLetter.calls (a0 : Int) (r : Bool) (w : World) (h : impl_isLetter.f a0 = some r) :
  Calls Tryz.prog 127 #[.int .u8 a0] w fun e w' => e = .returned (.bool r) ∧ Drawn0 w w' := by
 have H : (if a0 ≥ 97 then (some (decide (a0 ≤ 122))) else (some false)) = some r := h; clear h
 by_cases c2 : a0 ≥ 97
 ·
  rw [if_pos c2] at H; have c2b0 : decide (97 ≤ a0) = true := decide_eq_true c2; clear c2; obtain rfl := sj H; go_enter Tryz.func127, Tryz.ntmps127
  go_wp2
  go_ret
  exact dw
 rw [if_neg c2] at H; have c2b0 : decide (97 ≤ a0) = false := decide_eq_false c2; clear c2; obtain rfl := sj H; go_enter Tryz.func127, Tryz.ntmps127
 go_wp2
 go_ret
 exact dw

/-! ### impl_isFigure: function 128 -/
def impl_isFigure.f (a0 : Int) : Option (Bool) := if a0 ≥ 48 then (some (decide (a0 ≤ 57))) else (some false)
set_option maxHeartbeats 8000000 in
set_option maxRecDepth 100000 in
theorem impl_isFigure.calls (a0 : Int) (r : Bool) (w : World) (h : impl_isFigure.f a0 = some r) :
  Calls Tryz.prog 128 #[.int .u8 a0] w fun e w' => e = .returned (.bool r) ∧ Drawn0 w w' := by
 have H : (if a0 ≥ 48 then (some (decide (a0 ≤ 57))) else (some false)) = some r := h; clear h
 by_cases c2 : a0 ≥ 48
 ·
  rw [if_pos c2] at H; have c2b0 : decide (48 ≤ a0) = true := decide_eq_true c2; clear c2; obtain rfl := sj H; go_enter Tryz.func128, Tryz.ntmps128
  go_wp2
  go_ret
  exact dw
 rw [if_neg c2] at H; have c2b0 : decide (48 ≤ a0) = false := decide_eq_false c2; clear c2; obtain rfl := sj H; go_enter Tryz.func128, Tryz.ntmps128
 go_wp2
 go_ret
 exact dw

/-! ### impl_oneOf: function 136 -/
def impl_oneOf.l0 : Nat → ByteArray → List ByteArray → Int → Int → Option (Bool)
 | 0, _, _, _, _ => none
 | k + 1, x0, x8, x9, x10 => if x10 < x9 then (if 0 ≤ x10 then (if x10 < (x8.length : Int) then (if (rdOf ByteArray.empty x8 x10).toList = x0.toList then (some true) else (impl_oneOf.l0 k x0 x8 x9 (wrap64 (x10 + 1)))) else (none)) else (none)) else (some false)
def impl_oneOf.f (k : Nat) (a0 : ByteArray) (a1 : ByteArray) : Option (Bool) := (strings_Split.f a1 (⟨#[32]⟩ : ByteArray)).bind fun t365 => (impl_oneOf.l0 k a0 t365 (t365.length : Int) 0)
theorem impl_oneOf.mono_l : ∀ k, (∀ y0 y1 y2 y3, LeO (impl_oneOf.l0 k y0 y1 y2 y3) (impl_oneOf.l0 (k + 1) y0 y1 y2 y3))
 | 0 => fun _ _ _ _ r h => by simp [impl_oneOf.l0] at h
 | k + 1 => by
  have ih0 := impl_oneOf.mono_l k
  ·
   intro y0 y1 y2 y3
   unfold impl_oneOf.l0
   with_reducible repeat' first | exact ih0 _ _ _ _ | exact LeO.refl _ | exact LeO.none _ | refine LeO.ite ?_ ?_ | refine LeO.bind ?_ (fun _ => ?_)
theorem impl_oneOf.mono : ∀ a0 a1 k, LeO (impl_oneOf.f k a0 a1) (impl_oneOf.f (k + 1) a0 a1) := by
 intro a0 a1 k; have ih0 := impl_oneOf.mono_l k
 unfold impl_oneOf.f
 with_reducible repeat' first | exact ih0 _ _ _ _ | exact LeO.refl _ | exact LeO.none _ | refine LeO.ite ?_ ?_ | refine LeO.bind ?_ (fun _ => ?_)
set_option maxHeartbeats 8000000 in
set_option maxRecDepth 100000 in
theorem impl_oneOf.calls (k : Nat) (a0 : ByteArray) (a1 : ByteArray) (r : Bool) (w : World) (h : impl_oneOf.f k a0 a1 = some r) :
  Calls Tryz.prog 136 #[.string a0, .string a1] w fun e w' => e = .returned (.bool r) ∧ Below w.heap.size w w' := by
 have HB := As.mk (Below.refl w.heap.size w); have H : ((strings_Split.f a1 (⟨#[32]⟩ : ByteArray)).bind fun t365 => (impl_oneOf.l0 k a0 t365 (t365.length : Int) 0)) = some r := h; clear h; replace H := bo H; obtain ⟨t365, A3, H⟩ := H; have H' := As.mk H; clear H; go_enter Tryz.func136, Tryz.ntmps136
 go_wp2_with (first | ((with_reducible refine gate_callee (f := 149) rfl ?_); refine goL (some 8) Tryz.func149 #[.string a1, .string (⟨#[32]⟩ : ByteArray)] ?_; (with_reducible refine (strings_Split.calls a1 (⟨#[32]⟩ : ByteArray) t365 _ A3.out).mono ?_); rintro e w4 ⟨v366, rfl, ho0, hb⟩; refine ⟨_, rfl, ?_⟩; have HO367 := As.mk (Kd.R_lower ho0 (below_size (be w))); replace HB := bs w hb; (try clear hb); (try clear ho0); obtain ⟨Ao5, co5, eo5⟩ := Kd.R_slice HO367.out; subst eo5))
 (try simp only [pk])
 go_loopg [10] k (fun kq v10 w' => ∃ (x10_1 : Int), v10 = .int .i64 x10_1 ∧ As (impl_oneOf.l0 kq a0 t365 (t365.length : Int) x10_1 = some r) ∧ As (kq ≤ k) ∧ As (Kd.R Kd.string 9 w' w.heap.size (fun _ => True) (.slice Ao5 t365.length co5) t365) ∧ As (Below w.heap.size w w'))
 case atStart => exact ⟨(0), (by first | rfl | (simp; done) | (simp [*]; done)), H', ⟨Nat.le_refl _⟩, ⟨by (with_reducible repeat (first | apply Kd.R_alloc | apply Kd.R_drewN | apply Kd.R_drew)); exact HO367.out⟩, ⟨be w⟩⟩
 case round =>
  clear H'; obtain ⟨x10_1, rfl, HA, HK1, HO_8, HB⟩ := hrel
  cases gk with
  | zero => exact absurd HA.out (by simp [impl_oneOf.l0])
  | succ k1 =>
   have H := HA.out; clear HA
   simp only [impl_oneOf.l0] at H
   by_cases c6 : x10_1 < (t365.length : Int)
   rotate_left
   ·
    rw [if_neg c6] at H; have c6b0 := decide_eq_false c6; clear c6; obtain rfl := sj H
    go_wp2
    go_ret
    exact ⟨ez, be w⟩

   rw [if_pos c6] at H; have c6b0 := decide_eq_true c6; clear c6; replace H := ia H; obtain ⟨c7b0, H⟩ := H; replace H := ia H; obtain ⟨c8b0, H⟩ := H
   by_cases c9 : (rdOf ByteArray.empty t365 x10_1).toList = a0.toList
   ·
    rw [if_pos c9] at H; have c9b0 : ((rdOf ByteArray.empty t365 x10_1).toList == a0.toList) = true := beq_iff_eq.mpr c9; have c9b1 : ((rdOf ByteArray.empty t365 x10_1).toList != a0.toList) = false := bne_eq_false_iff_eq.mpr c9; clear c9; obtain rfl := sj H; have p368 : 0 ≤ (x10_1 : Int) := od; have q368 : x10_1 < (t365.length : Int) := od; obtain ⟨ad368, e368, x368a⟩ := Kd.at_string (Kd.R_reads' HO_8.out).2.2 x10_1 p368 q368; cases e368; replace p368 := eq_true p368; replace q368 := eq_true q368
    go_wp2
    go_ret
    exact ⟨ez, be w⟩
   rw [if_neg c9] at H; have c9b0 : ((rdOf ByteArray.empty t365 x10_1).toList == a0.toList) = false := beq_eq_false_iff_ne.mpr c9; have c9b1 : ((rdOf ByteArray.empty t365 x10_1).toList != a0.toList) = true := bne_iff_ne.mpr c9; have H' := As.mk H; clear H; have p368 : 0 ≤ (x10_1 : Int) := od; have q368 : x10_1 < (t365.length : Int) := od; obtain ⟨ad368, e368, x368a⟩ := Kd.at_string (Kd.R_reads' HO_8.out).2.2 x10_1 p368 q368; cases e368; replace p368 := eq_true p368; replace q368 := eq_true q368
   go_wp2
   go_roundg k1
   case measure => have := HK1.out; omega
   case rel => exact ⟨(wrap64 (x10_1 + 1)), (by first | rfl | (simp; done) | (simp [*]; done)), H', ⟨by have := HK1.out; omega⟩, ⟨by (with_reducible repeat (first | apply Kd.R_alloc | apply Kd.R_drewN | apply Kd.R_drew)); exact HO_8.out⟩, ⟨be w⟩⟩
/-! ### impl_KeyWord: function 129 -/
def impl_KeyWord.f (k : Nat) (a0 : ByteArray) : Option (Bool) := (impl_oneOf.f k a0 (⟨#[102, 110, 32, 108, 101, 116, 32, 105, 102, 32, 101, 108, 115, 101, 32, 119, 104, 105, 108, 101, 32, 112, 114, 105, 110, 116, 32, 100, 111, 32, 110, 101, 119, 32, 99, 108, 111, 110, 101, 32, 109, 117, 116, 32, 105, 110, 112, 117, 116, 32, 105, 110, 116, 32, 98, 111, 120, 32, 114, 101, 116]⟩ : ByteArray)).bind fun t369 => (some t369)
theorem impl_KeyWord.mono : ∀ a0 k, LeO (impl_KeyWord.f k a0) (impl_KeyWord.f (k + 1) a0) := by
 intro a0 k
 unfold impl_KeyWord.f
 with_reducible repeat' first | exact impl_oneOf.mono _ _ _ | exact LeO.refl _ | exact LeO.none _ | refine LeO.ite ?_ ?_ | refine LeO.bind ?_ (fun _ => ?_)
set_option maxHeartbeats 8000000 in
set_option maxRecDepth 100000 in
theorem impl_KeyWord.calls (k : Nat) (a0 : ByteArray) (r : Bool) (w : World) (h : impl_KeyWord.f k a0 = some r) :
  Calls Tryz.prog 129 #[.string a0] w fun e w' => e = .returned (.bool r) ∧ Below w.heap.size w w' := by
 have HB := As.mk (Below.refl w.heap.size w); have H : ((impl_oneOf.f k a0 (⟨#[102, 110, 32, 108, 101, 116, 32, 105, 102, 32, 101, 108, 115, 101, 32, 119, 104, 105, 108, 101, 32, 112, 114, 105, 110, 116, 32, 100, 111, 32, 110, 101, 119, 32, 99, 108, 111, 110, 101, 32, 109, 117, 116, 32, 105, 110, 112, 117, 116, 32, 105, 110, 116, 32, 98, 111, 120, 32, 114, 101, 116]⟩ : ByteArray)).bind fun t369 => (some t369)) = some r := h; clear h; replace H := bo H; obtain ⟨t369, A2, H⟩ := H; obtain rfl := sj H; go_enter Tryz.func129, Tryz.ntmps129
 go_wp2_with (first | ((with_reducible refine gate_callee (f := 136) rfl ?_); refine goL (some 4) Tryz.func136 #[.string a0, .string (⟨#[102, 110, 32, 108, 101, 116, 32, 105, 102, 32, 101, 108, 115, 101, 32, 119, 104, 105, 108, 101, 32, 112, 114, 105, 110, 116, 32, 100, 111, 32, 110, 101, 119, 32, 99, 108, 111, 110, 101, 32, 109, 117, 116, 32, 105, 110, 112, 117, 116, 32, 105, 110, 116, 32, 98, 111, 120, 32, 114, 101, 116]⟩ : ByteArray)] ?_; (with_reducible refine (impl_oneOf.calls k a0 (⟨#[102, 110, 32, 108, 101, 116, 32, 105, 102, 32, 101, 108, 115, 101, 32, 119, 104, 105, 108, 101, 32, 112, 114, 105, 110, 116, 32, 100, 111, 32, 110, 101, 119, 32, 99, 108, 111, 110, 101, 32, 109, 117, 116, 32, 105, 110, 112, 117, 116, 32, 105, 110, 116, 32, 98, 111, 120, 32, 114, 101, 116]⟩ : ByteArray) t369 _ A2.out).mono ?_); rintro e w3 ⟨rfl, hb⟩; refine ⟨_, rfl, ?_⟩; replace HB := bs w hb; (try clear hb)))
 go_ret
 exact ⟨ez, be w⟩

end Go.Proofs.YtcoapbnbakmkoaaGreatDoor.PFnExactShowProgram
