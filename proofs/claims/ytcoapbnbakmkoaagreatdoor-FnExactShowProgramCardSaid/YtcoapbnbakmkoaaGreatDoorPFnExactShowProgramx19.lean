/- Written by a program of this session (a turned copy of the kit's print): a contract for each Go function. No condition beside those in each statement. -/
import Derived.Test.YtcoapbnbakmkoaaGreatDoorPFnExactShowProgramx0
import Derived.Test.YtcoapbnbakmkoaaGreatDoorPFnExactShowProgramx1
import Derived.Test.YtcoapbnbakmkoaaGreatDoorPFnExactShowProgramx2
import Derived.Test.YtcoapbnbakmkoaaGreatDoorPFnExactShowProgramx3
import Derived.Test.YtcoapbnbakmkoaaGreatDoorPFnExactShowProgramx12
import Derived.Test.YtcoapbnbakmkoaaGreatDoorPFnExactShowProgramx16
import Derived.Test.YtcoapbnbakmkoaaGreatDoorPFnExactShowProgramx17
import Derived.Test.YtcoapbnbakmkoaaGreatDoorPFnExactShowProgramx18
namespace Go.Proofs.YtcoapbnbakmkoaaGreatDoor.PFnExactShowProgram
open Go.RowKit Go.Proofs.YtcoapbnbakmkoaaGreatDoor.Given Go.Proofs.YtcoapbnbakmkoaaGreatDoorW.PrintWords Go.Proofs.YtcoapbnbakmkoaaGreatDoorW.PrintLast Go.Proofs.YtcoapbnbakmkoaaGreatDoorW.PrintMore
attribute [local go_sem] max2_int min2_int max_two min_two max_three min_three max_four min_four   -- for this text's walks alone
set_option linter.unusedVariables false
set_option linter.unusedSimpArgs false

/-! ### impl_typeWord: function 83 -/
def impl_typeWord.f (a0 : Int) : Option (ByteArray) := (some (([(⟨#[]⟩ : ByteArray), (⟨#[105, 110, 116]⟩ : ByteArray), (⟨#[98, 111, 120]⟩ : ByteArray), (⟨#[38, 98, 111, 120]⟩ : ByteArray), (⟨#[38, 109, 117, 116, 32, 98, 111, 120]⟩ : ByteArray)] : List ByteArray) : List ByteArray)).bind fun y494 => (if 0 ≤ a0 then (if a0 < (y494.length : Int) then (some (rdOf ByteArray.empty y494 a0)) else (none)) else (none))
set_option maxHeartbeats 8000000 in
set_option maxRecDepth 100000 in
theorem impl_typeWord.calls (a0 : Int) (r : ByteArray) (w : World) (h : impl_typeWord.f a0 = some r) :
  Calls Tryz.prog 83 #[.int .i64 a0] w fun e w' => e = .returned (.string r) ∧ Below w.heap.size w w' := by
 have HB := As.mk (Below.refl w.heap.size w); have H : ((some (([(⟨#[]⟩ : ByteArray), (⟨#[105, 110, 116]⟩ : ByteArray), (⟨#[98, 111, 120]⟩ : ByteArray), (⟨#[38, 98, 111, 120]⟩ : ByteArray), (⟨#[38, 109, 117, 116, 32, 98, 111, 120]⟩ : ByteArray)] : List ByteArray) : List ByteArray)).bind fun y494 => (if 0 ≤ a0 then (if a0 < (y494.length : Int) then (some (rdOf ByteArray.empty y494 a0)) else (none)) else (none))) = some r := h; clear h
 obtain ⟨y494, hy494⟩ : ∃ y_ : List ByteArray, y_ = (([(⟨#[]⟩ : ByteArray), (⟨#[105, 110, 116]⟩ : ByteArray), (⟨#[98, 111, 120]⟩ : ByteArray), (⟨#[38, 98, 111, 120]⟩ : ByteArray), (⟨#[38, 109, 117, 116, 32, 98, 111, 120]⟩ : ByteArray)] : List ByteArray)) := ⟨_, rfl⟩
 replace H : (if 0 ≤ a0 then (if a0 < (y494.length : Int) then (some (rdOf ByteArray.empty y494 a0)) else (none)) else (none)) = some r := by first | (rw [hy494]; with_reducible exact H) | (have H2_ := (Option.bind_some _ _).symm.trans H; rw [hy494]; with_reducible exact H2_) | (have H2_ := (Option.bind_some _ _).symm.trans H; with_reducible exact H2_) | with_reducible exact H | (rw [hy494]; exact H) | exact H
 have Ny494 := As.mk hy494; clear hy494
 by_cases c2 : 0 ≤ a0
 rotate_left; · rw [if_neg c2] at H; exact absurd H (by simp)

 rw [if_pos c2] at H; have c2b0 := decide_eq_true c2; clear c2; replace H := ia H; obtain ⟨c3b0, H⟩ := H; obtain rfl := sj H; go_enter Tryz.func83, Tryz.ntmps83
 go_wp2_with (first | ((with_reducible refine gate_dst (N := 3) rfl ?_); refine Kd.R_lit Kd.string _ 9 ?hg (N := 3) ?hd (xs := ([(⟨#[]⟩ : ByteArray), (⟨#[105, 110, 116]⟩ : ByteArray), (⟨#[98, 111, 120]⟩ : ByteArray), (⟨#[38, 98, 111, 120]⟩ : ByteArray), (⟨#[38, 109, 117, 116, 32, 98, 111, 120]⟩ : ByteArray)] : List ByteArray)) (inner := [.string (⟨#[]⟩ : ByteArray), .string (⟨#[105, 110, 116]⟩ : ByteArray), .string (⟨#[98, 111, 120]⟩ : ByteArray), .string (⟨#[38, 98, 111, 120]⟩ : ByteArray), .string (⟨#[38, 109, 117, 116, 32, 98, 111, 120]⟩ : ByteArray)]) (ok := fun _ => True) (okp := fun _ => True) ?hr ?hp (fun _ hk => hk) trivial (Below.refl _ _) (Nat.le_refl _) (by simp) ?_; (case hd => rfl); (case hg => rfl); (case hr => first | (go_simp; done) | (go_simp; rfl)); (case hp => exact (Reps.one (show Kd.M Kd.string _ _ _ (⟨#[]⟩ : ByteArray) [.string (⟨#[]⟩ : ByteArray)] from rfl) (Reps.one (show Kd.M Kd.string _ _ _ (⟨#[105, 110, 116]⟩ : ByteArray) [.string (⟨#[105, 110, 116]⟩ : ByteArray)] from rfl) (Reps.one (show Kd.M Kd.string _ _ _ (⟨#[98, 111, 120]⟩ : ByteArray) [.string (⟨#[98, 111, 120]⟩ : ByteArray)] from rfl) (Reps.one (show Kd.M Kd.string _ _ _ (⟨#[38, 98, 111, 120]⟩ : ByteArray) [.string (⟨#[38, 98, 111, 120]⟩ : ByteArray)] from rfl) (Reps.one (show Kd.M Kd.string _ _ _ (⟨#[38, 109, 117, 116, 32, 98, 111, 120]⟩ : ByteArray) [.string (⟨#[38, 109, 117, 116, 32, 98, 111, 120]⟩ : ByteArray)] from rfl) (Reps.none _ _))))))); intro v495 w4 ho5 hb hg_ hnew_; clear hg_ hnew_; (first | rw [← Ny494.out] at ho5 | (simp only [Int.reduceToNat] at ho5; rw [← Ny494.out] at ho5)); have HO496 := As.mk (Kd.R_lower ho5 (below_size (be w))); replace HB := bs w hb; clear hb ho5; obtain ⟨Ao6, co6, eo6⟩ := Kd.R_slice HO496.out; subst eo6; have p497 : 0 ≤ (a0 : Int) := od; have q497 : a0 < (y494.length : Int) := od; obtain ⟨ad497, e497, x497a⟩ := Kd.at_string (Kd.R_reads' HO496.out).2.2 a0 p497 q497; cases e497; replace p497 := eq_true p497; replace q497 := eq_true q497))
 go_ret
 exact ⟨ez, be w⟩
/-! ### impl_showFn: function 54 -/
mutual
def impl_showFn.l0 : Nat → List ByteArray → List (S58) → Int → Int → List (S62) → List (S56) → ByteArray → List (S58) → Int → Int → Int → Option (ByteArray)
 | 0, _, _, _, _, _, _, _, _, _, _, _ => none
 | k + 1, x5, x10, x11, x12, x499000, x499001, x500000, x500001, x500002, x500003, x500004 => if x12 < x11 then (if 0 ≤ x12 then (if x12 < (x10.length : Int) then (if ((rd_T58 x10 x12).f0).size + 2 ≤ 9223372036854775807 then ((impl_typeWord.f ((rd_T58 x10 x12).f1)).bind fun t502 => (if (((rd_T58 x10 x12).f0) ++ (⟨#[58, 32]⟩ : ByteArray)).size + t502.size ≤ 9223372036854775807 then (if x5.length < 8796093022208 then (impl_showFn.l0 k (x5 ++ [(((rd_T58 x10 x12).f0) ++ (⟨#[58, 32]⟩ : ByteArray)) ++ t502]) x10 x11 (wrap64 (x12 + 1)) x499000 x499001 x500000 x500001 x500002 x500003 x500004) else (none)) else (none))) else (none)) else (none)) else (none)) else (if 3 + x500000.size ≤ 9223372036854775807 then (if ((⟨#[102, 110, 32]⟩ : ByteArray) ++ x500000).size + 1 ≤ 9223372036854775807 then ((strings_Join.f x5 (⟨#[44, 32]⟩ : ByteArray)).bind fun t506 => (if (((⟨#[102, 110, 32]⟩ : ByteArray) ++ x500000) ++ (⟨#[40]⟩ : ByteArray)).size + t506.size ≤ 9223372036854775807 then (if ((((⟨#[102, 110, 32]⟩ : ByteArray) ++ x500000) ++ (⟨#[40]⟩ : ByteArray)) ++ t506).size + 1 ≤ 9223372036854775807 then (if x500002 = 0 then (impl_showFn.j1 k (((((⟨#[102, 110, 32]⟩ : ByteArray) ++ x500000) ++ (⟨#[40]⟩ : ByteArray)) ++ t506) ++ (⟨#[41]⟩ : ByteArray)) x499000 x499001 x500000 x500001 x500002 x500003 x500004) else ((impl_typeWord.f x500002).bind fun t507 => (if 4 + t507.size ≤ 9223372036854775807 then (if (((((⟨#[102, 110, 32]⟩ : ByteArray) ++ x500000) ++ (⟨#[40]⟩ : ByteArray)) ++ t506) ++ (⟨#[41]⟩ : ByteArray)).size + ((⟨#[32, 45, 62, 32]⟩ : ByteArray) ++ t507).size ≤ 9223372036854775807 then (impl_showFn.j1 k ((((((⟨#[102, 110, 32]⟩ : ByteArray) ++ x500000) ++ (⟨#[40]⟩ : ByteArray)) ++ t506) ++ (⟨#[41]⟩ : ByteArray)) ++ ((⟨#[32, 45, 62, 32]⟩ : ByteArray) ++ t507)) x499000 x499001 x500000 x500001 x500002 x500003 x500004) else (none)) else (none)))) else (none)) else (none))) else (none)) else (none))
def impl_showFn.j1 : Nat → ByteArray → List (S62) → List (S56) → ByteArray → List (S58) → Int → Int → Int → Option (ByteArray)
 | 0, _, _, _, _, _, _, _, _ => none
 | k + 1, x8, x499000, x499001, x500000, x500001, x500002, x500003, x500004 => (impl_showSteps.f k x499000 x499001 x500003 1).bind fun t508 => (if 3 + t508.size ≤ 9223372036854775807 then (if x8.size + ((⟨#[32, 123, 10]⟩ : ByteArray) ++ t508).size ≤ 9223372036854775807 then (if x500004 ≥ 0 then ((impl_showValue.f k x499000 x499001 x500004).bind fun t509 => (if 6 + t509.size ≤ 9223372036854775807 then (if ((⟨#[32, 32, 114, 101, 116, 32]⟩ : ByteArray) ++ t509).size + 2 ≤ 9223372036854775807 then (if (x8 ++ ((⟨#[32, 123, 10]⟩ : ByteArray) ++ t508)).size + (((⟨#[32, 32, 114, 101, 116, 32]⟩ : ByteArray) ++ t509) ++ (⟨#[59, 10]⟩ : ByteArray)).size ≤ 9223372036854775807 then (if ((x8 ++ ((⟨#[32, 123, 10]⟩ : ByteArray) ++ t508)) ++ (((⟨#[32, 32, 114, 101, 116, 32]⟩ : ByteArray) ++ t509) ++ (⟨#[59, 10]⟩ : ByteArray))).size + 2 ≤ 9223372036854775807 then (some (((x8 ++ ((⟨#[32, 123, 10]⟩ : ByteArray) ++ t508)) ++ (((⟨#[32, 32, 114, 101, 116, 32]⟩ : ByteArray) ++ t509) ++ (⟨#[59, 10]⟩ : ByteArray))) ++ (⟨#[125, 10]⟩ : ByteArray))) else (none)) else (none)) else (none)) else (none))) else (if (x8 ++ ((⟨#[32, 123, 10]⟩ : ByteArray) ++ t508)).size + 2 ≤ 9223372036854775807 then (some ((x8 ++ ((⟨#[32, 123, 10]⟩ : ByteArray) ++ t508)) ++ (⟨#[125, 10]⟩ : ByteArray))) else (none))) else (none)) else (none))
end
def impl_showFn.f (k : Nat) (l0_0 : List (S62)) (l0_1 : List (S56)) (a1_0 : ByteArray) (l1_1 : List (S58)) (a1_2 : Int) (a1_3 : Int) (a1_4 : Int) : Option (ByteArray) := impl_showFn.l0 k ([] : List ByteArray) l1_1 (l1_1.length : Int) 0 l0_0 l0_1 a1_0 l1_1 a1_2 a1_3 a1_4
theorem impl_showFn.mono_l : ∀ k, (∀ y0 y1 y2 y3 y4 y5 y6 y7 y8 y9 y10, LeO (impl_showFn.l0 k y0 y1 y2 y3 y4 y5 y6 y7 y8 y9 y10) (impl_showFn.l0 (k + 1) y0 y1 y2 y3 y4 y5 y6 y7 y8 y9 y10)) ∧ (∀ y0 y1 y2 y3 y4 y5 y6 y7, LeO (impl_showFn.j1 k y0 y1 y2 y3 y4 y5 y6 y7) (impl_showFn.j1 (k + 1) y0 y1 y2 y3 y4 y5 y6 y7))
 | 0 => ⟨fun _ _ _ _ _ _ _ _ _ _ _ r h => by simp [impl_showFn.l0] at h, fun _ _ _ _ _ _ _ _ r h => by simp [impl_showFn.j1] at h⟩
 | k + 1 => by
  obtain ⟨ih0, ih1⟩ := impl_showFn.mono_l k
  refine ⟨?_, ?_⟩
  ·
   intro y0 y1 y2 y3 y4 y5 y6 y7 y8 y9 y10
   unfold impl_showFn.l0
   with_reducible repeat' first | exact ih0 _ _ _ _ _ _ _ _ _ _ _ | exact ih1 _ _ _ _ _ _ _ _ | exact impl_showSteps.mono _ _ _ _ _ | exact impl_showValue.mono _ _ _ _ | exact LeO.refl _ | exact LeO.none _ | refine LeO.ite ?_ ?_ | refine LeO.bind ?_ (fun _ => ?_)
  ·
   intro y0 y1 y2 y3 y4 y5 y6 y7
   unfold impl_showFn.j1
   with_reducible repeat' first | exact ih0 _ _ _ _ _ _ _ _ _ _ _ | exact ih1 _ _ _ _ _ _ _ _ | exact impl_showSteps.mono _ _ _ _ _ | exact impl_showValue.mono _ _ _ _ | exact LeO.refl _ | exact LeO.none _ | refine LeO.ite ?_ ?_ | refine LeO.bind ?_ (fun _ => ?_)
theorem impl_showFn.mono : ∀ a0 a1 a2 a3 a4 a5 a6 k, LeO (impl_showFn.f k a0 a1 a2 a3 a4 a5 a6) (impl_showFn.f (k + 1) a0 a1 a2 a3 a4 a5 a6) := by
 intro a0 a1 a2 a3 a4 a5 a6 k; obtain ⟨ih0, ih1⟩ := impl_showFn.mono_l k
 unfold impl_showFn.f
 with_reducible repeat' first | exact ih0 _ _ _ _ _ _ _ _ _ _ _ | exact ih1 _ _ _ _ _ _ _ _ | exact impl_showSteps.mono _ _ _ _ _ | exact impl_showValue.mono _ _ _ _ | exact LeO.refl _ | exact LeO.none _ | refine LeO.ite ?_ ?_ | refine LeO.bind ?_ (fun _ => ?_)
def impl_showFn.T5 : Bool × List (List Nat × List Nat) := (true, [([], []), ([], []), ([1], [1]), ([2], [2]), ([], []), ([4], [4]), ([5], [5]), ([3, 6], [3, 6]), ([7], [7]), ([0, 8, 6], [0, 8]), ([9, 9, 0, 1, 2, 3, 4, 5, 6, 7, 8, 9], [0, 9])])
def impl_showFn.B5 : List Nat := [0, 0, 2, 6, 0, 16, 48, 126, 254, 511, 1023]
theorem impl_showFn.tab5 : rtab .any (opsOf Tryz.f54 5) = impl_showFn.T5 := by kernel_rfl
theorem impl_showFn.bits5 : waitsOk impl_showFn.T5.2 impl_showFn.B5 = true := by kernel_rfl
def impl_showFn.T7 : Bool × List (List Nat × List Nat) := (true, [([], []), ([0], [0]), ([1], [1]), ([2], [2]), ([], []), ([4], [4]), ([3, 5], [3, 5]), ([6], [6]), ([7, 5, 0, 1, 2, 3, 4, 5, 6, 7], [7])])
def impl_showFn.B7 : List Nat := [0, 1, 3, 7, 0, 16, 63, 127, 255]
theorem impl_showFn.tab7 : rtab .any (opsOf Tryz.f54 7) = impl_showFn.T7 := by kernel_rfl
theorem impl_showFn.bits7 : waitsOk impl_showFn.T7.2 impl_showFn.B7 = true := by kernel_rfl
set_option maxHeartbeats 8000000 in
set_option maxRecDepth 100000 in
theorem impl_showFn.calls (k : Nat) (A0_0 : Option Addr) (c0_0 : Nat) (l0_0 : List (S62)) (A0_1 : Option Addr) (c0_1 : Nat) (l0_1 : List (S56)) (a1_0 : ByteArray) (A1_1 : Option Addr) (c1_1 : Nat) (l1_1 : List (S58)) (a1_2 : Int) (a1_3 : Int) (a1_4 : Int) (r : ByteArray) (w : World) (hr0_0 : Kd.C k62 w A0_0 l0_0.length l0_0) (hc0_0 : l0_0.length ≤ c0_0) (hr0_1 : Kd.C k56 w A0_1 l0_1.length l0_1) (hc0_1 : l0_1.length ≤ c0_1) (hr1_1 : Kd.C k58 w A1_1 l1_1.length l1_1) (hc1_1 : l1_1.length ≤ c1_1) (hTab : TabW w) (h : impl_showFn.f k l0_0 l0_1 a1_0 l1_1 a1_2 a1_3 a1_4 = some r) :
  Calls Tryz.prog 54 #[.agg #[.slice A0_0 l0_0.length c0_0, .slice A0_1 l0_1.length c0_1], .agg #[.string a1_0, .slice A1_1 l1_1.length c1_1, .int .i64 a1_2, .int .i64 a1_3, .int .i64 a1_4]] w fun e w' => e = .returned (.string r) ∧ Below w.heap.size w w' := by
 have HTAB := As.mk hTab; clear hTab; have hu32 := Tryz.underlying32; have hu56 := Tryz.underlying56; have hu58 := Tryz.underlying58; have HR0_0 := As.mk hr0_0; have HC0_0 := As.mk hc0_0; clear hr0_0 hc0_0; have HR0_1 := As.mk hr0_1; have HC0_1 := As.mk hc0_1; clear hr0_1 hc0_1; have HR1_1 := As.mk hr1_1; have HC1_1 := As.mk hc1_1; clear hr1_1 hc1_1; have HB := As.mk (Below.refl w.heap.size w); have H : (impl_showFn.l0 k ([] : List ByteArray) l1_1 (l1_1.length : Int) 0 l0_0 l0_1 a1_0 l1_1 a1_2 a1_3 a1_4) = some r := h; clear h; have H' := As.mk H; clear H; go_enter Tryz.func54, Tryz.ntmps54
 go_wp2_with (first | ((with_reducible refine gate_dst (N := 2) rfl ?_); refine bxe 2 #[.slice A0_0 l0_0.length c0_0, .slice A0_1 l0_1.length c0_1] 32 ?_; intro gb498 hg w3 BK498 hb; have GW498 := As.mk (gs w hg); replace HB := bs w hb; clear hb hg) | ((with_reducible refine gate_dst (N := 3) rfl ?_); refine bxe 3 #[.string a1_0, .slice A1_1 l1_1.length c1_1, .int .i64 a1_2, .int .i64 a1_3, .int .i64 a1_4] 56 ?_; intro gb499 hg w4 BK499 hb; have GW499 := As.mk (gs w hg); replace HB := bs w hb; have NB498_499 := As.mk (nl hg (bx BK498.out)); have NB499_498 := As.mk (ng hg (bx BK498.out)); replace BK498 := bb BK498 hb; clear hb hg; have hnb5 := NB499_498.out; have hnc5 := NB498_499.out; obtain ⟨y6a, y6b, y6c, y6d, y6e, v6a, v6b, v6c, v6d, v6e⟩ := cl5 BK499.out))
 go_loopg [5, 12] k (fun kq v5 v12 w' => ∃ (x5_1 : List ByteArray) (x12_1 : Int), v12 = .int .i64 x12_1 ∧ As (impl_showFn.l0 kq x5_1 l1_1 (l1_1.length : Int) x12_1 l0_0 l0_1 a1_0 l1_1 a1_2 a1_3 a1_4 = some r) ∧ As (kq ≤ k) ∧ As (Kd.R Kd.string 9 w' w.heap.size (fun _ => True) v5 x5_1) ∧ As (w'.heap[gb498]? = some (.cells #[(.slice A0_0 l0_0.length c0_0), (.slice A0_1 l0_1.length c0_1)] 32 (0, 0))) ∧ As (w'.heap[gb499]? = some (.cells #[.string a1_0, (.slice A1_1 l1_1.length c1_1), .int .i64 a1_2, .int .i64 a1_3, .int .i64 a1_4] 56 (0, 0))) ∧ As (Below w.heap.size w w'))
 case atStart => exact ⟨(([] : List ByteArray)), (0), (by first | rfl | (simp; done) | (simp [*]; done)), H', ⟨Nat.le_refl _⟩, ⟨by first | exact Kd.R_nil _ _ _ _ _ | exact Kd.N_nil _ _ _ _ _ | exact Kd.V_nil _ _ _ _ _ | exact Kd.Q_nil _ _ _ _ _ | exact Kd.S_nil _ _ _ _ _⟩, ⟨bx BK498.out⟩, ⟨bx BK499.out⟩, ⟨be w⟩⟩
 case round =>
  clear H'; (try clear y6a); (try clear y6b); (try clear y6c); (try clear y6d); (try clear y6e); (try clear v6a); (try clear v6b); (try clear v6c); (try clear v6d); (try clear v6e); obtain ⟨x5_1, x12_1, rfl, HA, HK1, HO_5, BK498, BK499, HB⟩ := hrel
  cases gk with
  | zero => exact absurd HA.out (by simp [impl_showFn.l0])
  | succ k1 =>
   have H := HA.out; clear HA
   simp only [impl_showFn.l0] at H
   by_cases c7 : x12_1 < (l1_1.length : Int)
   ·
    rw [if_pos c7] at H; have c7b0 := decide_eq_true c7; clear c7; replace H := ia H; obtain ⟨c8b0, H⟩ := H; replace H := ia H; obtain ⟨c9b0, H⟩ := H; replace H := il H; obtain ⟨c10, c10b0, c10b1, c10b2, H⟩ := H; replace H := bo H; obtain ⟨t502, A11, H⟩ := H; replace H := il H; obtain ⟨c12, c12b0, c12b1, c12b2, H⟩ := H
    try have c12b4 : (9223372036854775807 < ((rd_T58 l1_1 x12_1).f0).size + 2 + t502.size) = False := eq_false (Nat.not_lt.2 (by have h_ := c12; simp only [ByteArray.size_append] at h_; exact h_))
    have c13 := i1 H; replace H := i2 H; have LMc13 := As.mk c13; clear c13
    obtain ⟨y503, hy503⟩ : ∃ y_ : List ByteArray, y_ = (x5_1 ++ [(((rd_T58 l1_1 x12_1).f0) ++ (⟨#[58, 32]⟩ : ByteArray)) ++ t502]) := ⟨_, rfl⟩
    replace H : (impl_showFn.l0 k1 y503 l1_1 (l1_1.length : Int) (wrap64 (x12_1 + 1)) l0_0 l0_1 a1_0 l1_1 a1_2 a1_3 a1_4) = some r := by first | (rw [hy503]; with_reducible exact H) | (have H2_ := (Option.bind_some _ _).symm.trans H; rw [hy503]; with_reducible exact H2_) | (have H2_ := (Option.bind_some _ _).symm.trans H; with_reducible exact H2_) | with_reducible exact H | (rw [hy503]; exact H) | exact H
    have Ny503 := As.mk hy503; clear hy503; have H' := As.mk H; clear H; obtain ⟨ad500, e500, p500, q500, x500a, x500b⟩ := bt_T58 HB.out HR1_1.out x12_1 od od; cases e500
    try go_wp2_with (first | ((with_reducible refine gate_dst (N := 7) rfl ?_); refine bxe 7 #[.string (⟨#[]⟩ : ByteArray), .int .i64 0] 58 ?_; intro gb501 hg w14 BK501 hb; replace HO_5 := As.mk (Kd.R_below (by (with_reducible repeat (first | apply Kd.R_alloc | apply Kd.R_drewN | apply Kd.R_drew)); exact HO_5.out) hb); have GW501 := As.mk (gs w hg); replace HB := bs w hb; have NB498_501 := As.mk (nl hg (bx BK498.out)); have NB501_498 := As.mk (ng hg (bx BK498.out)); replace BK498 := bb BK498 hb; have NB499_501 := As.mk (nl hg (bx BK499.out)); have NB501_499 := As.mk (ng hg (bx BK499.out)); replace BK499 := bb BK499 hb; clear hb hg; have hnb15 := NB501_498.out; have hnc15 := NB498_501.out; have hnb16 := NB501_499.out; have hnc16 := NB499_501.out; obtain ⟨y17a, y17b, v17a, v17b⟩ := cl2 BK501.out))
    generalize hW_ : ((w14.setCell ⟨gb501, 0, none⟩ (.string ((rd_T58 l1_1 x12_1).f0))).setCell ⟨gb501, 1, none⟩ (.int .i64 ((rd_T58 l1_1 x12_1).f1))) = w18
    have n0_ : As (Kd.R Kd.string 9 w18 w.heap.size (fun _ => True) u5 x5_1) := ⟨by rw [← hW_]; (with_reducible repeat (first | apply Kd.R_alloc | apply Kd.R_drewN | apply Kd.R_drew)); exact Kd.R_mono (Kd.R_far (p := ⟨gb501, 1, none⟩) (Kd.R_far (p := ⟨gb501, 0, none⟩) (Kd.R_types HO_5.out BK501.out (by decide)) (fun _ hk => hk.2) (.string ((rd_T58 l1_1 x12_1).f0))) (fun _ hk => hk.2) (.int .i64 ((rd_T58 l1_1 x12_1).f1))) (fun _ hk => trivial)⟩; have n1_ : As (w18.heap[gb498]? = some (.cells #[.slice A0_0 l0_0.length c0_0, .slice A0_1 l0_1.length c0_1] 32 (0, 0))) := ⟨by rw [← hW_]; refine pl ?_; refine blk_far ?_ NB498_501.out _; refine pl ?_; refine blk_far ?_ NB498_501.out _; exact bx BK498.out⟩; have n2_ : As (w18.heap[gb499]? = some (.cells #[.string a1_0, .slice (some ad500) l1_1.length c1_1, .int .i64 a1_2, .int .i64 a1_3, .int .i64 a1_4] 56 (0, 0))) := ⟨by rw [← hW_]; refine pl ?_; refine blk_far ?_ NB499_501.out _; refine pl ?_; refine blk_far ?_ NB499_501.out _; exact bx BK499.out⟩; have n3_ : As (w18.heap[gb501]? = some (.cells #[.string ((rd_T58 l1_1 x12_1).f0), .int .i64 ((rd_T58 l1_1 x12_1).f1)] 58 (0, 0))) := ⟨by rw [← hW_]; exact pl (bp2 (bx BK501.out))⟩; have n4_ : As (Below w.heap.size w w18) := ⟨by rw [← hW_]; exact be w⟩; (try clear HO_5); (try clear BK498); (try clear BK499); (try clear BK501); (try clear HB); clear hW_; have HO_5 := n0_; have BK498 := n1_; have BK499 := n2_; have BK501 := n3_; have HB := n4_; clear n0_ n1_ n2_ n3_ n4_; replace HO_5 := As.mk (Kd.R_drew HO_5.out); replace BK498 := As.mk (blk_drew BK498.out); replace BK499 := As.mk (blk_drew BK499.out); replace BK501 := As.mk (blk_drew BK501.out); replace HB := As.mk (below_drew1 HB.out)
    refine start_ (n := 11) (S := _) (ds := []) #[O,O,O,O,O,O,O,O,O,O,O] (by kernel_rfl) rfl rfl (bf BK501.out) (fun hHeld => ?_); refine with_tabW impl_showFn.tab5 impl_showFn.bits5 (fun HT_ HW_ => ?_)
    generalize w18.drew = w19 at HO_5 BK498 BK499 BK501 HB hHeld ⊢
    refine pq 0 16 HT_ _ _ ?_; refine pq 1 17 HT_ _ _ ?_; refine pq 4 20 HT_ _ _ ?_; refine tq_b2 2 18 HT_ HW_.out hHeld _ _ ?_; refine pq 3 19 HT_ _ _ ?_; refine tq_b2 5 21 HT_ HW_.out hHeld _ _ ?_; refine on 6 (some 22) HT_ (fun K hK => ?_); refine goS Tryz.func83 #[.int .i64 ((rd_T58 l1_1 x12_1).f1)] ?_
    with_reducible refine (impl_typeWord.calls ((rd_T58 l1_1 x12_1).f1) t502 _ A11.out).mono ?_
    rintro e w20 ⟨rfl, hb⟩
    refine ⟨_, rfl, ?_⟩
    replace HO_5 := As.mk (Kd.R_below (by (with_reducible repeat (first | apply Kd.R_alloc | apply Kd.R_drewN | apply Kd.R_drew)); exact HO_5.out) hb); replace BK498 := bb BK498 hb; replace BK499 := bb BK499 hb; replace BK501 := bb BK501 hb; replace HB := bs w hb; (try clear hb); (try clear hb2); (try clear hk); (try clear hi)
    refine hK.out _ _ (bf BK501.out) (fun hHeld => ?_)
    clear hK K; refine nm _ ?_; refine pq 7 23 HT_ _ _ ?_; refine on 8 (some 24) HT_ (fun K hK => ?_)
    refine value_ (w1 := ?_) (v := ?_) (by rfl) rfl ?_ ?_
    rotate_left 2
    ·
     go_simp
     constructor
     · rfl
     · rfl
    refine hK.out _ _ (bf (blk_alloc BK501.out _)) (fun hHeld => ?_)
    clear hK K; refine nm _ ?_; refine on 9 (some 25) HT_ (fun K hK => ?_)
    refine Kd.R_append_step Kd.string (w0 := w) w.heap.size (by rfl) (.tmp 16) (.tmp 24) 98 9 (.string ⟨#[]⟩) 16 rfl Tryz.underlying98 info9 rfl (by decide) (by omega) u5 x5_1 ((((rd_T58 l1_1 x12_1).f0) ++ (⟨#[58, 32]⟩ : ByteArray)) ++ t502) [.string ((((rd_T58 l1_1 x12_1).f0) ++ (⟨#[58, 32]⟩ : ByteArray)) ++ t502)] (fun _ => True) (fun _ => False) rfl rfl ?aP (fun _ hk => hk.elim) ?aF ?aO ?aB ?aS ?aL ?_
    (case aP => exact rfl)
    (case aB => exact (be w))
    (case aF => exact (fun _ _ => trivial))
    (case aO => exact (by (with_reducible repeat (first | apply Kd.R_alloc | apply Kd.R_drewN | apply Kd.R_drew)); exact HO_5.out))
    (case aS => exact (below_size (be w)))
    (case aL => have := LMc13.out; omega)
    intro v504 w21 ho hb hg hat; rw [← Ny503.out] at ho; replace BK498 := As.mk (blk_grown (g := gb498) (o := .cells #[.slice A0_0 l0_0.length c0_0, .slice A0_1 l0_1.length c0_1] 32 (0, 0)) (bx BK498.out) hg (Kd.R_ne HO_5.out BK498.out (by decide))); replace BK499 := As.mk (blk_grown (g := gb499) (o := .cells #[.string a1_0, .slice (some ad500) l1_1.length c1_1, .int .i64 a1_2, .int .i64 a1_3, .int .i64 a1_4] 56 (0, 0)) (bx BK499.out) hg (Kd.R_ne HO_5.out BK499.out (by decide))); replace BK501 := As.mk (blk_grown (g := gb501) (o := .cells #[.string ((rd_T58 l1_1 x12_1).f0), .int .i64 ((rd_T58 l1_1 x12_1).f1)] 58 (0, 0)) (bx BK501.out) hg (Kd.R_ne HO_5.out BK501.out (by decide))); replace HB := As.mk (hb); have HO505 := As.mk (ho); clear HO_5; clear ho hb hg hat
    refine hK.out _ _ (bf BK501.out) (fun hHeld => ?_)
    clear hK K; refine nm _ ?_; refine pq 10 5 HT_ _ _ ?_
    refine done_ (done_of HT_.out (by kernel_rfl)) ?_
    try go_wp2
    go_roundg k1
    case measure => have := HK1.out; omega
    case rel => exact ⟨(y503), (wrap64 (x12_1 + 1)), (by first | rfl | (simp; done) | (simp [*]; done)), H', ⟨by have := HK1.out; omega⟩, ⟨by (with_reducible repeat (first | apply Kd.R_alloc | apply Kd.R_drewN | apply Kd.R_drew)); exact HO505.out⟩, ⟨bx BK498.out⟩, ⟨bx BK499.out⟩, ⟨be w⟩⟩
   rw [if_neg c7] at H; have c7b0 := decide_eq_false c7; clear c7
   by_cases c22 : 3 + a1_0.size ≤ 9223372036854775807
   rotate_left; · rw [if_neg c22] at H; exact absurd H (by simp)

   rw [if_pos c22] at H; have c22b0 := eq_true c22; have c22b1 := decide_eq_true c22
   try have c22b2 := eq_false (Nat.not_lt.2 c22)
   replace H := il H; obtain ⟨c23, c23b0, c23b1, c23b2, H⟩ := H
   try have c23b4 : (9223372036854775807 < 3 + a1_0.size + 1) = False := eq_false (Nat.not_lt.2 (by have h_ := c23; simp only [ByteArray.size_append] at h_; exact h_))
   replace H := bo H; obtain ⟨t506, A24, H⟩ := H; replace H := il H; obtain ⟨c25, c25b0, c25b1, c25b2, H⟩ := H
   try have c25b4 : (9223372036854775807 < 3 + a1_0.size + 1 + t506.size) = False := eq_false (Nat.not_lt.2 (by have h_ := c25; simp only [ByteArray.size_append] at h_; exact h_))
   replace H := il H; obtain ⟨c26, c26b0, c26b1, c26b2, H⟩ := H
   try have c26b4 : (9223372036854775807 < 3 + a1_0.size + 1 + t506.size + 1) = False := eq_false (Nat.not_lt.2 (by have h_ := c26; simp only [ByteArray.size_append] at h_; exact h_))
   have HC27 := As.mk H; clear H
   try go_wp2
   replace HO_5 := As.mk (Kd.R_drew HO_5.out); replace BK498 := As.mk (blk_drew BK498.out); replace BK499 := As.mk (blk_drew BK499.out); replace HB := As.mk (below_drew1 HB.out); obtain ⟨Ao29, co29, eo29⟩ := Kd.R_slice HO_5.out
   (first | subst eo29 | (injection eo29 with f1_ f2_ f3_; have f4_ := f1_.symm; have f5_ := f3_.symm; clear f1_ f2_ f3_; subst f4_; subst f5_))
   refine start_ (n := 9) (S := _) (ds := []) #[O,O,O,O,O,O,O,O,O] (by kernel_rfl) rfl rfl (bf BK499.out) (fun hHeld => ?_); refine with_tabW impl_showFn.tab7 impl_showFn.bits7 (fun HT_ HW_ => ?_)
   generalize wr.drew = w28 at HO_5 BK498 BK499 HB hHeld ⊢
   refine pq 0 27 HT_ _ _ ?_; refine pq 4 31 HT_ _ _ ?_; refine tq_b5 1 28 HT_ HW_.out hHeld _ _ ?_; refine pq 2 29 HT_ _ _ ?_; refine pq 3 30 HT_ _ _ ?_; refine on 5 (some 32) HT_ (fun K hK => ?_); refine goS Tryz.func84 #[.slice Ao29 x5_1.length co29, .string (⟨#[44, 32]⟩ : ByteArray)] ?_
   with_reducible refine (strings_Join.calls _ _ x5_1 (⟨#[44, 32]⟩ : ByteArray) t506 _ ?side1 ?side2 A24.out).mono ?_
   (case side1 => repeat (first | exact (Kd.R_reads' HO_5.out).2.2 | (with_reducible refine Kd.C_alloc ?_ _) | (with_reducible refine Kd.C_drewN ?_ _) | (with_reducible refine Kd.C_drew ?_)))
   (case side2 => exact (Kd.R_reads' HO_5.out).2.1)
   rintro e w30 ⟨rfl, hb⟩
   refine ⟨_, rfl, ?_⟩
   replace HO_5 := As.mk (Kd.R_below (by (with_reducible repeat (first | apply Kd.R_alloc | apply Kd.R_drewN | apply Kd.R_drew)); exact HO_5.out) hb); replace BK498 := bb BK498 hb; replace BK499 := bb BK499 hb; replace HB := bs w hb; (try clear hb); (try clear hb2); (try clear hk); (try clear hi)
   refine hK.out _ _ (bf BK499.out) (fun hHeld => ?_)
   clear hK K; refine nm _ ?_; refine pq 6 33 HT_ _ _ ?_; refine pq 7 34 HT_ _ _ ?_; refine pq 8 8 HT_ _ _ ?_
   refine done_ (done_of HT_.out (by kernel_rfl)) ?_
   have hnb31 := NB499_498.out; have hnc31 := NB498_499.out; obtain ⟨y32a, y32b, y32c, y32d, y32e, v32a, v32b, v32c, v32d, v32e⟩ := cl5 BK499.out
   go_upto_if 37 with (fail)
   go_cut [8] (fun v8 wc => ∃ (kq : Nat) (x8_26 : ByteArray), v8 = .string x8_26 ∧ As (impl_showFn.j1 kq x8_26 l0_0 l0_1 a1_0 l1_1 a1_2 a1_3 a1_4 = some r) ∧ As (kq ≤ k1) ∧ As (wc.heap[gb498]? = some (.cells #[(.slice A0_0 l0_0.length c0_0), (.slice A0_1 l0_1.length c0_1)] 32 (0, 0))) ∧ As (wc.heap[gb499]? = some (.cells #[.string a1_0, (.slice A1_1 l1_1.length c1_1), .int .i64 a1_2, .int .i64 a1_3, .int .i64 a1_4] 56 (0, 0))) ∧ As (Below w.heap.size w wc))
   case first =>
    have H := HC27.out; clear HC27
    by_cases c33 : a1_2 = 0
    ·
     rw [if_pos c33] at H; have c33b0 : (a1_2 == 0) = true := beq_iff_eq.mpr c33; have c33b1 : (a1_2 != 0) = false := bne_eq_false_iff_eq.mpr c33; clear c33
     (first | rw [c33b0] | (simp only [i64_w, i32_w]; rw [c33b0]) | skip)
     have H' := As.mk H; clear H
     go_wp2
     go_meet
     case rel => exact ⟨_, (((((⟨#[102, 110, 32]⟩ : ByteArray) ++ a1_0) ++ (⟨#[40]⟩ : ByteArray)) ++ t506) ++ (⟨#[41]⟩ : ByteArray)), (by first | rfl | (simp; done) | (simp [*]; done)), H', ⟨by have := HK1.out; first | omega | exact Nat.le_refl _⟩, ⟨bx BK498.out⟩, ⟨bx BK499.out⟩, ⟨be w⟩⟩
    rw [if_neg c33] at H; have c33b0 : (a1_2 == 0) = false := beq_eq_false_iff_ne.mpr c33; have c33b1 : (a1_2 != 0) = true := bne_iff_ne.mpr c33
    (first | rw [c33b0] | (simp only [i64_w, i32_w]; rw [c33b0]) | skip)
    replace H := bo H; obtain ⟨t507, A34, H⟩ := H; replace H := il H; obtain ⟨c35, c35b0, c35b1, c35b2, H⟩ := H; replace H := il H; obtain ⟨c36, c36b0, c36b1, c36b2, H⟩ := H
    try have c36b4 : (9223372036854775807 < 3 + a1_0.size + 1 + t506.size + 1 + (4 + t507.size)) = False := eq_false (Nat.not_lt.2 (by have h_ := c36; simp only [ByteArray.size_append] at h_; exact h_))
    have H' := As.mk H; clear H; have hnb37 := NB499_498.out; have hnc37 := NB498_499.out; obtain ⟨y38a, y38b, y38c, y38d, y38e, v38a, v38b, v38c, v38d, v38e⟩ := cl5 BK499.out
    go_wp2_with (first | ((with_reducible refine gate_callee (f := 83) rfl ?_); refine goL (some 41) Tryz.func83 #[.int .i64 a1_2] ?_; (with_reducible refine (impl_typeWord.calls a1_2 t507 _ A34.out).mono ?_); rintro e w39 ⟨rfl, hb⟩; refine ⟨_, rfl, ?_⟩; replace BK498 := bb BK498 hb; replace BK499 := bb BK499 hb; replace HB := bs w hb; (try clear hb)))
    go_meet
    case rel => exact ⟨_, ((((((⟨#[102, 110, 32]⟩ : ByteArray) ++ a1_0) ++ (⟨#[40]⟩ : ByteArray)) ++ t506) ++ (⟨#[41]⟩ : ByteArray)) ++ ((⟨#[32, 45, 62, 32]⟩ : ByteArray) ++ t507)), (by first | rfl | (simp; done) | (simp [*]; done)), H', ⟨by have := HK1.out; first | omega | exact Nat.le_refl _⟩, ⟨bx BK498.out⟩, ⟨bx BK499.out⟩, ⟨be w⟩⟩
   case rest =>
    clear HC27; (try clear c7); (try clear c7b0); (try clear c22); (try clear c22b0); (try clear c22b1); (try clear c22b2); (try clear c23); (try clear c23b0); (try clear c23b1); (try clear c23b2); (try clear c25); (try clear c25b0); (try clear c25b1); (try clear c25b2); (try clear c26); (try clear c26b0); (try clear c26b1); (try clear c26b2); (try clear y32a); (try clear y32b); (try clear y32c); (try clear y32d); (try clear y32e); (try clear y6a); (try clear y6b); (try clear y6c); (try clear y6d); (try clear y6e); (try clear v32a); (try clear v32b); (try clear v32c); (try clear v32d); (try clear v32e); (try clear v6a); (try clear v6b); (try clear v6c); (try clear v6d); (try clear v6e); obtain ⟨kq, x8_26, rfl, HA, HJ26, BK498, BK499, HB⟩ := hcut
    cases kq with
    | zero => exact absurd HA.out (by simp [impl_showFn.j1])
    | succ kj26 =>
     have H := HA.out; clear HA
     simp only [impl_showFn.j1] at H
     replace H := bo H; obtain ⟨t508, A40, H⟩ := H; replace H := il H; obtain ⟨c41, c41b0, c41b1, c41b2, H⟩ := H; replace H := il H; obtain ⟨c42, c42b0, c42b1, c42b2, H⟩ := H
     try have c42b4 : (9223372036854775807 < x8_26.size + (3 + t508.size)) = False := eq_false (Nat.not_lt.2 (by have h_ := c42; simp only [ByteArray.size_append] at h_; exact h_))
     by_cases c43 : a1_4 ≥ 0
     rotate_left
     ·
      rw [if_neg c43] at H; have c43b0 : decide (0 ≤ a1_4) = false := decide_eq_false c43; clear c43; replace H := il H; obtain ⟨c56, c56b0, c56b1, c56b2, H⟩ := H
      try have c56b4 : (9223372036854775807 < x8_26.size + (3 + t508.size) + 2) = False := eq_false (Nat.not_lt.2 (by have h_ := c56; simp only [ByteArray.size_append] at h_; exact h_))
      obtain rfl := sj H; have hnb57 := NB498_499.out; have hnc57 := NB499_498.out; obtain ⟨y58a, y58b, v58a, v58b⟩ := cl2 BK498.out; obtain ⟨y59a, y59b, y59c, y59d, y59e, v59a, v59b, v59c, v59d, v59e⟩ := cl5 BK499.out
      go_wp2_with (first | ((with_reducible refine gate_callee (f := 75) rfl ?_); refine goL (some 48) Tryz.func75 #[.agg #[.slice A0_0 l0_0.length c0_0, .slice A0_1 l0_1.length c0_1], .int .i64 a1_3, .int .i64 1] ?_; (with_reducible refine (impl_showSteps.calls kj26 _ _ l0_0 _ _ l0_1 a1_3 1 t508 _ (cb HR0_0) HC0_0.out (cb HR0_1) HC0_1.out (by first | (with_reducible exact HTAB.out) | exact tabW_below HTAB.out (be w)) A40.out).mono ?_); rintro e w60 ⟨rfl, hb⟩; refine ⟨_, rfl, ?_⟩; replace BK499 := bb BK499 hb; replace HB := bs w hb; (try clear hb); obtain ⟨y61a, y61b, y61c, y61d, y61e, v61a, v61b, v61c, v61d, v61e⟩ := cl5 BK499.out))
      go_ret
      exact ⟨ez, be w⟩
     rw [if_pos c43] at H; have c43b0 : decide (0 ≤ a1_4) = true := decide_eq_true c43; clear c43; replace H := bo H; obtain ⟨t509, A44, H⟩ := H; replace H := il H; obtain ⟨c45, c45b0, c45b1, c45b2, H⟩ := H; replace H := il H; obtain ⟨c46, c46b0, c46b1, c46b2, H⟩ := H
     try have c46b4 : (9223372036854775807 < 6 + t509.size + 2) = False := eq_false (Nat.not_lt.2 (by have h_ := c46; simp only [ByteArray.size_append] at h_; exact h_))
     replace H := il H; obtain ⟨c47, c47b0, c47b1, c47b2, H⟩ := H
     try have c47b4 : (9223372036854775807 < x8_26.size + (3 + t508.size) + (6 + t509.size + 2)) = False := eq_false (Nat.not_lt.2 (by have h_ := c47; simp only [ByteArray.size_append] at h_; exact h_))
     replace H := il H; obtain ⟨c48, c48b0, c48b1, c48b2, H⟩ := H
     try have c48b4 : (9223372036854775807 < x8_26.size + (3 + t508.size) + (6 + t509.size + 2) + 2) = False := eq_false (Nat.not_lt.2 (by have h_ := c48; simp only [ByteArray.size_append] at h_; exact h_))
     obtain rfl := sj H; have hnb49 := NB498_499.out; have hnc49 := NB499_498.out; obtain ⟨y50a, y50b, v50a, v50b⟩ := cl2 BK498.out; obtain ⟨y51a, y51b, y51c, y51d, y51e, v51a, v51b, v51c, v51d, v51e⟩ := cl5 BK499.out
     go_wp2_with (first | ((with_reducible refine gate_callee (f := 75) rfl ?_); refine goL (some 48) Tryz.func75 #[.agg #[.slice A0_0 l0_0.length c0_0, .slice A0_1 l0_1.length c0_1], .int .i64 a1_3, .int .i64 1] ?_; (with_reducible refine (impl_showSteps.calls kj26 _ _ l0_0 _ _ l0_1 a1_3 1 t508 _ (cb HR0_0) HC0_0.out (cb HR0_1) HC0_1.out (by first | (with_reducible exact HTAB.out) | exact tabW_below HTAB.out (be w)) A40.out).mono ?_); rintro e w52 ⟨rfl, hb⟩; refine ⟨_, rfl, ?_⟩; replace BK498 := bb BK498 hb; replace BK499 := bb BK499 hb; replace HB := bs w hb; (try clear hb); obtain ⟨y53a, y53b, y53c, y53d, y53e, v53a, v53b, v53c, v53d, v53e⟩ := cl5 BK499.out; obtain ⟨y54a, y54b, v54a, v54b⟩ := cl2 BK498.out) | ((with_reducible refine gate_callee (f := 57) rfl ?_); refine goL (some 58) Tryz.func57 #[.agg #[.slice A0_0 l0_0.length c0_0, .slice A0_1 l0_1.length c0_1], .int .i64 a1_4] ?_; (with_reducible refine (impl_showValue.calls kj26 _ _ l0_0 _ _ l0_1 a1_4 t509 _ (cb HR0_0) HC0_0.out (cb HR0_1) HC0_1.out (by first | (with_reducible exact HTAB.out) | exact tabW_below HTAB.out (be w)) A44.out).mono ?_); rintro e w55 ⟨rfl, hb⟩; refine ⟨_, rfl, ?_⟩; replace HB := bs w hb; (try clear hb)))
     go_ret
     exact ⟨ez, be w⟩
/-! ### impl_ShowProgram: function 21 -/
def impl_ShowProgram.l0 : Nat → ByteArray → List (S56) → Int → Int → List (S62) → List (S56) → Option (ByteArray × Bool)
 | 0, _, _, _, _, _, _ => none
 | k + 1, x4, x11, x12, x13, x511000, x511001 => if x13 < x12 then (if 0 ≤ x13 then (if x13 < (x11.length : Int) then ((impl_showFn.f k x511000 x511001 ((rd_T56 x11 x13).f0) ((rd_T56 x11 x13).f1) ((rd_T56 x11 x13).f2) ((rd_T56 x11 x13).f3) ((rd_T56 x11 x13).f4)).bind fun t514 => (if x4.size + t514.size ≤ 9223372036854775807 then (impl_ShowProgram.l0 k (x4 ++ t514) x11 x12 (wrap64 (x13 + 1)) x511000 x511001) else (none))) else (none)) else (none)) else (if (x4.size : Int) > 3000 then (some ((⟨#[]⟩ : ByteArray), false)) else (some (x4, true)))
def impl_ShowProgram.f (k : Nat) (l0_0 : List (S62)) (l0_1 : List (S56)) : Option (ByteArray × Bool) := (impl_ProgramOk.f k l0_0 l0_1).bind fun t511 => (if t511 = true then (impl_ShowProgram.l0 k (⟨#[]⟩ : ByteArray) l0_1 (l0_1.length : Int) 0 l0_0 l0_1) else (some ((⟨#[]⟩ : ByteArray), false)))
theorem impl_ShowProgram.mono_l : ∀ k, (∀ y0 y1 y2 y3 y4 y5, LeO (impl_ShowProgram.l0 k y0 y1 y2 y3 y4 y5) (impl_ShowProgram.l0 (k + 1) y0 y1 y2 y3 y4 y5))
 | 0 => fun _ _ _ _ _ _ r h => by simp [impl_ShowProgram.l0] at h
 | k + 1 => by
  have ih0 := impl_ShowProgram.mono_l k
  ·
   intro y0 y1 y2 y3 y4 y5
   unfold impl_ShowProgram.l0
   with_reducible repeat' first | exact ih0 _ _ _ _ _ _ | exact impl_ProgramOk.mono _ _ _ | exact impl_showFn.mono _ _ _ _ _ _ _ _ | exact LeO.refl _ | exact LeO.none _ | refine LeO.ite ?_ ?_ | refine LeO.bind ?_ (fun _ => ?_)
theorem impl_ShowProgram.mono : ∀ a0 a1 k, LeO (impl_ShowProgram.f k a0 a1) (impl_ShowProgram.f (k + 1) a0 a1) := by
 intro a0 a1 k; have ih0 := impl_ShowProgram.mono_l k
 unfold impl_ShowProgram.f
 with_reducible repeat' first | exact ih0 _ _ _ _ _ _ | exact impl_ProgramOk.mono _ _ _ | exact impl_showFn.mono _ _ _ _ _ _ _ _ | exact LeO.refl _ | exact LeO.none _ | refine LeO.ite ?_ ?_ | refine LeO.bind ?_ (fun _ => ?_)
set_option maxHeartbeats 8000000 in
set_option maxRecDepth 100000 in
theorem impl_ShowProgram.calls (k : Nat) (A0_0 : Option Addr) (c0_0 : Nat) (l0_0 : List (S62)) (A0_1 : Option Addr) (c0_1 : Nat) (l0_1 : List (S56)) (r1 : ByteArray) (r2 : Bool) (w : World) (hr0_0 : Kd.C k62 w A0_0 l0_0.length l0_0) (hc0_0 : l0_0.length ≤ c0_0) (hr0_1 : Kd.C k56 w A0_1 l0_1.length l0_1) (hc0_1 : l0_1.length ≤ c0_1) (hTab : TabW w) (h : impl_ShowProgram.f k l0_0 l0_1 = some (r1, r2)) :
  Calls Tryz.prog 21 #[.agg #[.slice A0_0 l0_0.length c0_0, .slice A0_1 l0_1.length c0_1]] w fun e w' => e = .returned (.tuple #[.string r1, .bool r2]) ∧ Below w.heap.size w w' := by
 have HTAB := As.mk hTab; clear hTab; have hu32 := Tryz.underlying32; have hu56 := Tryz.underlying56; have HR0_0 := As.mk hr0_0; have HC0_0 := As.mk hc0_0; clear hr0_0 hc0_0; have HR0_1 := As.mk hr0_1; have HC0_1 := As.mk hc0_1; clear hr0_1 hc0_1; have HB := As.mk (Below.refl w.heap.size w); have H : ((impl_ProgramOk.f k l0_0 l0_1).bind fun t511 => (if t511 = true then (impl_ShowProgram.l0 k (⟨#[]⟩ : ByteArray) l0_1 (l0_1.length : Int) 0 l0_0 l0_1) else (some ((⟨#[]⟩ : ByteArray), false)))) = some (r1, r2) := h; clear h; replace H := bo H; obtain ⟨t511, A2, H⟩ := H
 by_cases c3 : t511 = true
 rotate_left
 ·
  replace c3 := Bool.eq_false_iff.mpr c3; subst c3; rw [if_neg ft] at H
  simp only [Option.some.injEq, Prod.mk.injEq] at H
  obtain ⟨rfl, rfl⟩ := H; go_enter Tryz.func21, Tryz.ntmps21
  go_wp2_with (first | ((with_reducible refine gate_dst (N := 1) rfl ?_); refine bxe 1 #[.slice A0_0 l0_0.length c0_0, .slice A0_1 l0_1.length c0_1] 32 ?_; intro gb510 hg w19 BK510 hb; have GW510 := As.mk (gs w hg); replace HB := bs w hb; clear hb hg; obtain ⟨y20a, y20b, v20a, v20b⟩ := cl2 BK510.out) | ((with_reducible refine gate_callee (f := 53) rfl ?_); refine goL (some 8) Tryz.func53 #[.agg #[.slice A0_0 l0_0.length c0_0, .slice A0_1 l0_1.length c0_1]] ?_; (with_reducible refine (impl_ProgramOk.calls k _ _ l0_0 _ _ l0_1 false _ (cb HR0_0) HC0_0.out (cb HR0_1) HC0_1.out A2.out).mono ?_); rintro e w21 ⟨rfl, hb⟩; refine ⟨_, rfl, ?_⟩; replace HB := bs w hb; (try clear hb)))
  go_ret2
  exact ⟨ez, be w⟩

 subst c3; rw [if_pos rfl] at H; have H' := As.mk H; clear H; go_enter Tryz.func21, Tryz.ntmps21
 go_wp2_with (first | ((with_reducible refine gate_dst (N := 1) rfl ?_); refine bxe 1 #[.slice A0_0 l0_0.length c0_0, .slice A0_1 l0_1.length c0_1] 32 ?_; intro gb510 hg w4 BK510 hb; have GW510 := As.mk (gs w hg); replace HB := bs w hb; clear hb hg; obtain ⟨y5a, y5b, v5a, v5b⟩ := cl2 BK510.out) | ((with_reducible refine gate_callee (f := 53) rfl ?_); refine goL (some 8) Tryz.func53 #[.agg #[.slice A0_0 l0_0.length c0_0, .slice A0_1 l0_1.length c0_1]] ?_; (with_reducible refine (impl_ProgramOk.calls k _ _ l0_0 _ _ l0_1 true _ (cb HR0_0) HC0_0.out (cb HR0_1) HC0_1.out A2.out).mono ?_); rintro e w6 ⟨rfl, hb⟩; refine ⟨_, rfl, ?_⟩; replace BK510 := bb BK510 hb; replace HB := bs w hb; (try clear hb); obtain ⟨y7a, y7b, v7a, v7b⟩ := cl2 BK510.out))
 (try simp only [pk])
 go_loopg [4, 13] k (fun kq v4 v13 w' => ∃ (x4_1 : ByteArray) (x13_1 : Int), v4 = .string x4_1 ∧ v13 = .int .i64 x13_1 ∧ As (impl_ShowProgram.l0 kq x4_1 l0_1 (l0_1.length : Int) x13_1 l0_0 l0_1 = some (r1, r2)) ∧ As (kq ≤ k) ∧ As (w'.heap[gb510]? = some (.cells #[(.slice A0_0 l0_0.length c0_0), (.slice A0_1 l0_1.length c0_1)] 32 (0, 0))) ∧ As (Below w.heap.size w w'))
 case atStart => exact ⟨((⟨#[]⟩ : ByteArray)), (0), (by first | rfl | (simp; done) | (simp [*]; done)), (by first | rfl | (simp; done) | (simp [*]; done)), H', ⟨Nat.le_refl _⟩, ⟨bx BK510.out⟩, ⟨be w⟩⟩
 case round =>
  clear H'; (try clear c3); (try clear y5a); (try clear y5b); (try clear y7a); (try clear y7b); (try clear v5a); (try clear v5b); (try clear v7a); (try clear v7b); obtain ⟨x4_1, x13_1, rfl, rfl, HA, HK1, BK510, HB⟩ := hrel
  cases gk with
  | zero => exact absurd HA.out (by simp [impl_ShowProgram.l0])
  | succ k1 =>
   have H := HA.out; clear HA
   simp only [impl_ShowProgram.l0] at H
   by_cases c8 : x13_1 < (l0_1.length : Int)
   rotate_left
   ·
    rw [if_neg c8] at H; have c8b0 := decide_eq_false c8; clear c8
    by_cases c18 : (x4_1.size : Int) > 3000
    ·
     rw [if_pos c18] at H; have c18b0 : decide (3000 < (x4_1.size : Int)) = true := decide_eq_true c18; have c18b1 : decide (3000 < x4_1.size) = true := decide_eq_true (by omega); clear c18
     simp only [Option.some.injEq, Prod.mk.injEq] at H
     obtain ⟨rfl, rfl⟩ := H
     go_wp2
     go_ret2
     exact ⟨ez, be w⟩
    rw [if_neg c18] at H; have c18b0 : decide (3000 < (x4_1.size : Int)) = false := decide_eq_false c18; have c18b1 : decide (3000 < x4_1.size) = false := decide_eq_false (by omega); clear c18
    simp only [Option.some.injEq, Prod.mk.injEq] at H
    obtain ⟨rfl, rfl⟩ := H
    go_wp2
    go_ret2
    exact ⟨ez, be w⟩
   rw [if_pos c8] at H; have c8b0 := decide_eq_true c8; clear c8; replace H := ia H; obtain ⟨c9b0, H⟩ := H; replace H := ia H; obtain ⟨c10b0, H⟩ := H; replace H := bo H; obtain ⟨t514, A11, H⟩ := H; replace H := il H; obtain ⟨c12, c12b0, c12b1, c12b2, H⟩ := H; have H' := As.mk H; clear H; obtain ⟨ad512, A512_1, c512_1, e512, p512, q512, x512a, x512b, x512c, x512d, x512e, HC512_1, HR512_1⟩ := bt_T56 HB.out HR0_1.out x13_1 od od; cases e512
   go_wp2_with (first | ((with_reducible refine gate_dst (N := 6) rfl ?_); refine bxe 6 #[.string (⟨#[]⟩ : ByteArray), .slice none 0 0, .int .i64 0, .int .i64 0, .int .i64 0] 56 ?_; intro gb513 hg w13 BK513 hb; have GW513 := As.mk (gs w hg); replace HB := bs w hb; have NB510_513 := As.mk (nl hg (bx BK510.out)); have NB513_510 := As.mk (ng hg (bx BK510.out)); replace BK510 := bb BK510 hb; clear hb hg; have hnb14 := NB513_510.out; have hnc14 := NB510_513.out; obtain ⟨y15a, y15b, y15c, y15d, y15e, v15a, v15b, v15c, v15d, v15e⟩ := cl5 BK513.out; obtain ⟨y16a, y16b, v16a, v16b⟩ := cl2 BK510.out) | ((with_reducible refine gate_callee (f := 54) rfl ?_); refine goL (some 20) Tryz.func54 #[.agg #[.slice A0_0 l0_0.length c0_0, .slice (some ad512) l0_1.length c0_1], .agg #[.string ((rd_T56 l0_1 x13_1).f0), .slice A512_1 ((rd_T56 l0_1 x13_1).f1).length c512_1, .int .i64 ((rd_T56 l0_1 x13_1).f2), .int .i64 ((rd_T56 l0_1 x13_1).f3), .int .i64 ((rd_T56 l0_1 x13_1).f4)]] ?_; (with_reducible refine (impl_showFn.calls k1 _ _ l0_0 _ _ l0_1 ((rd_T56 l0_1 x13_1).f0) _ _ ((rd_T56 l0_1 x13_1).f1) ((rd_T56 l0_1 x13_1).f2) ((rd_T56 l0_1 x13_1).f3) ((rd_T56 l0_1 x13_1).f4) t514 _ (cb HR0_0) HC0_0.out (cb HR0_1) HC0_1.out (cb HR512_1) HC512_1.out (by first | (with_reducible exact HTAB.out) | exact tabW_below HTAB.out (be w)) A11.out).mono ?_); rintro e w17 ⟨rfl, hb⟩; refine ⟨_, rfl, ?_⟩; replace BK510 := As.mk (blk_below (g := gb510) (o := .cells #[.slice A0_0 l0_0.length c0_0, .slice (some ad512) l0_1.length c0_1] 32 (0, 0)) (by refine pl ?_; refine blk_far ?_ NB510_513.out _; refine pl ?_; refine blk_far ?_ NB510_513.out _; refine pl ?_; refine blk_far ?_ NB510_513.out _; refine pl ?_; refine blk_far ?_ NB510_513.out _; refine pl ?_; refine blk_far ?_ NB510_513.out _; exact bx BK510.out) hb); replace BK513 := As.mk (blk_below (g := gb513) (o := .cells #[.string ((rd_T56 l0_1 x13_1).f0), .slice A512_1 ((rd_T56 l0_1 x13_1).f1).length c512_1, .int .i64 ((rd_T56 l0_1 x13_1).f2), .int .i64 ((rd_T56 l0_1 x13_1).f3), .int .i64 ((rd_T56 l0_1 x13_1).f4)] 56 (0, 0)) (by exact pl (bp5 (bx BK513.out))) hb); replace HB := bs w hb; (try clear hb)))
   go_roundg k1
   case measure => have := HK1.out; omega
   case rel => exact ⟨(x4_1 ++ t514), (wrap64 (x13_1 + 1)), (by first | rfl | (simp; done) | (simp [*]; done)), (by first | rfl | (simp; done) | (simp [*]; done)), H', ⟨by have := HK1.out; omega⟩, ⟨bx BK510.out⟩, ⟨be w⟩⟩
/-! ### laws_FnExactShowProgram: function 5 -/
def laws_FnExactShowProgram.j0 : Nat → Bool → List (S80) → List (S84) → List (S62) → List (S56) → Option (Bool)
 | 0, _, _, _, _, _ => none
 | k + 1, x34, x516000, x516001, x532000, x532001 => if x34 = true then (some false) else ((laws_toProgram.f k x516000 x516001).bind fun bt534 => ((laws_eqProgram.f k x532000 x532001 bt534.1 bt534.2).bind fun t540 => (if t540 = true then (some true) else (some false))))
def laws_FnExactShowProgram.f (k : Nat) (l0_0 : List (S80)) (l0_1 : List (S84)) : Option (Bool) := (laws_szProgram.f k l0_0 l0_1 1048576).bind fun t516 => (if t516 < 0 then (some true) else ((laws_toProgram.f k l0_0 l0_1).bind fun bt517 => ((spec_ShowProgram.f k bt517.1 bt517.2).bind fun bt523 => ((laws_toProgram.f k l0_0 l0_1).bind fun bt525 => ((impl_ShowProgram.f k bt525.1 bt525.2).bind fun bt532 => (if bt532.1.toList = bt523.1.toList then (laws_FnExactShowProgram.j0 k (bt532.2 != bt523.2) l0_0 l0_1 bt525.1 bt525.2) else (laws_FnExactShowProgram.j0 k true l0_0 l0_1 bt525.1 bt525.2)))))))
theorem laws_FnExactShowProgram.mono_l : ∀ k, (∀ y0 y1 y2 y3 y4, LeO (laws_FnExactShowProgram.j0 k y0 y1 y2 y3 y4) (laws_FnExactShowProgram.j0 (k + 1) y0 y1 y2 y3 y4))
 | 0 => fun _ _ _ _ _ r h => by simp [laws_FnExactShowProgram.j0] at h
 | k + 1 => by
  have ih0 := laws_FnExactShowProgram.mono_l k
  ·
   intro y0 y1 y2 y3 y4
   unfold laws_FnExactShowProgram.j0
   with_reducible repeat' first | exact ih0 _ _ _ _ _ | exact impl_ShowProgram.mono _ _ _ | exact laws_eqProgram.mono _ _ _ _ _ | exact laws_szProgram.mono _ _ _ _ | exact laws_toProgram.mono _ _ _ | exact spec_ShowProgram.mono _ _ _ | exact LeO.refl _ | exact LeO.none _ | refine LeO.ite ?_ ?_ | refine LeO.bind ?_ (fun _ => ?_)
theorem laws_FnExactShowProgram.mono : ∀ a0 a1 k, LeO (laws_FnExactShowProgram.f k a0 a1) (laws_FnExactShowProgram.f (k + 1) a0 a1) := by
 intro a0 a1 k; have ih0 := laws_FnExactShowProgram.mono_l k
 unfold laws_FnExactShowProgram.f
 with_reducible repeat' first | exact ih0 _ _ _ _ _ | exact impl_ShowProgram.mono _ _ _ | exact laws_eqProgram.mono _ _ _ _ _ | exact laws_szProgram.mono _ _ _ _ | exact laws_toProgram.mono _ _ _ | exact spec_ShowProgram.mono _ _ _ | exact LeO.refl _ | exact LeO.none _ | refine LeO.ite ?_ ?_ | refine LeO.bind ?_ (fun _ => ?_)
set_option maxHeartbeats 8000000 in
set_option maxRecDepth 100000 in
theorem laws_FnExactShowProgram.calls (k : Nat) (A0_0 : Option Addr) (c0_0 : Nat) (l0_0 : List (S80)) (A0_1 : Option Addr) (c0_1 : Nat) (l0_1 : List (S84)) (r : Bool) (w : World) (hr0_0 : Kd.C k80 w A0_0 l0_0.length l0_0) (hc0_0 : l0_0.length ≤ c0_0) (hr0_1 : Kd.C k84 w A0_1 l0_1.length l0_1) (hc0_1 : l0_1.length ≤ c0_1) (hrt : As (r = true)) (hTab : TabW w) (h : laws_FnExactShowProgram.f k l0_0 l0_1 = some r) :
  Calls Tryz.prog 5 #[.agg #[.slice A0_0 l0_0.length c0_0, .slice A0_1 l0_1.length c0_1]] w fun e w' => e = .returned (.bool r) ∧ Below w.heap.size w w' := by
 have HTAB := As.mk hTab; clear hTab; have hu25 := Tryz.underlying25; have hu32 := Tryz.underlying32; have HR0_0 := As.mk hr0_0; have HC0_0 := As.mk hc0_0; clear hr0_0 hc0_0; have HR0_1 := As.mk hr0_1; have HC0_1 := As.mk hc0_1; clear hr0_1 hc0_1; have HB := As.mk (Below.refl w.heap.size w); have H : ((laws_szProgram.f k l0_0 l0_1 1048576).bind fun t516 => (if t516 < 0 then (some true) else ((laws_toProgram.f k l0_0 l0_1).bind fun bt517 => ((spec_ShowProgram.f k bt517.1 bt517.2).bind fun bt523 => ((laws_toProgram.f k l0_0 l0_1).bind fun bt525 => ((impl_ShowProgram.f k bt525.1 bt525.2).bind fun bt532 => (if bt532.1.toList = bt523.1.toList then (laws_FnExactShowProgram.j0 k (bt532.2 != bt523.2) l0_0 l0_1 bt525.1 bt525.2) else (laws_FnExactShowProgram.j0 k true l0_0 l0_1 bt525.1 bt525.2)))))))) = some r := h; clear h; replace H := bo H; obtain ⟨t516, A2, H⟩ := H
 by_cases c3 : t516 < 0
 ·
  rw [if_pos c3] at H; have c3b0 := decide_eq_true c3; clear c3; obtain rfl := sj H; go_enter Tryz.func5, Tryz.ntmps5
  go_wp2_with (first | ((with_reducible refine gate_dst (N := 1) rfl ?_); refine bxe 1 #[.slice A0_0 l0_0.length c0_0, .slice A0_1 l0_1.length c0_1] 25 ?_; intro gb515 hg w4 BK515 hb; have GW515 := As.mk (gs w hg); replace HB := bs w hb; clear hb hg; obtain ⟨y5a, y5b, v5a, v5b⟩ := cl2 BK515.out) | ((with_reducible refine gate_callee (f := 9) rfl ?_); refine goL (some 11) Tryz.func9 #[.agg #[.slice A0_0 l0_0.length c0_0, .slice A0_1 l0_1.length c0_1], .int .i64 1048576] ?_; (with_reducible refine (laws_szProgram.calls k _ _ l0_0 _ _ l0_1 1048576 t516 _ (cb HR0_0) HC0_0.out (cb HR0_1) HC0_1.out A2.out).mono ?_); rintro e w6 ⟨rfl, hb⟩; refine ⟨_, rfl, ?_⟩; replace HB := bs w hb; (try clear hb)))
  go_ret
  exact ⟨ez, be w⟩
 rw [if_neg c3] at H; have c3b0 := decide_eq_false c3; clear c3; replace H := bo H; obtain ⟨⟨t517, t520⟩, A7, H⟩ := H
 try dsimp only at H
 replace H := bo H; obtain ⟨⟨t523, t524⟩, A8, H⟩ := H
 try dsimp only at H
 replace H := bo H; obtain ⟨⟨t525, t528⟩, A9, H⟩ := H
 try dsimp only at H
 replace H := bo H; obtain ⟨⟨t532, t533⟩, A10, H⟩ := H
 try dsimp only at H
 have HC11 := As.mk H; clear H; go_enter Tryz.func5, Tryz.ntmps5
 go_upto_region 8 with (first | ((with_reducible refine gate_dst (N := 1) rfl ?_); refine bxe 1 #[.slice A0_0 l0_0.length c0_0, .slice A0_1 l0_1.length c0_1] 25 ?_; intro gb515 hg w12 BK515 hb; have GW515 := As.mk (gs w hg); replace HB := bs w hb; clear hb hg; obtain ⟨y13a, y13b, v13a, v13b⟩ := cl2 BK515.out) | ((with_reducible refine gate_callee (f := 9) rfl ?_); refine goL (some 11) Tryz.func9 #[.agg #[.slice A0_0 l0_0.length c0_0, .slice A0_1 l0_1.length c0_1], .int .i64 1048576] ?_; (with_reducible refine (laws_szProgram.calls k _ _ l0_0 _ _ l0_1 1048576 t516 _ (cb HR0_0) HC0_0.out (cb HR0_1) HC0_1.out A2.out).mono ?_); rintro e w14 ⟨rfl, hb⟩; refine ⟨_, rfl, ?_⟩; replace BK515 := bb BK515 hb; replace HB := bs w hb; (try clear hb); (try clear hk); obtain ⟨y15a, y15b, v15a, v15b⟩ := cl2 BK515.out) | ((with_reducible refine gate_callee (f := 11) rfl ?_); refine goL (some 16) Tryz.func11 #[.agg #[.slice A0_0 l0_0.length c0_0, .slice A0_1 l0_1.length c0_1]] ?_; (with_reducible refine (laws_toProgram.calls k _ _ l0_0 _ _ l0_1 t517 t520 _ (cb HR0_0) HC0_0.out (cb HR0_1) HC0_1.out A7.out).mono ?_); rintro e w16 ⟨v518, v521, rfl, ho0, ho1, hb⟩; refine ⟨_, rfl, ?_⟩; have HO519 := As.mk (Kd.S_lower ho0 (below_size (be w))); have HO522 := As.mk (Kd.S_lower ho1 (below_size (be w))); replace BK515 := bb BK515 hb; replace HB := bs w hb; (try clear hb); (try clear hk); (try clear ho0); (try clear ho1); obtain ⟨Ao17, co17, eo17⟩ := Kd.S_slice HO519.out; subst eo17; obtain ⟨Ao18, co18, eo18⟩ := Kd.S_slice HO522.out; subst eo18) | ((with_reducible refine gate_callee (f := 20) rfl ?_); refine goL (some 17) Tryz.func20 #[.agg #[.slice Ao17 t517.length co17, .slice Ao18 t520.length co18]] ?_; (with_reducible refine (spec_ShowProgram.calls k _ _ t517 _ _ t520 t523 t524 _ ?side1 ?side2 ?side3 ?side4 A8.out).mono ?_); (case side1 => repeat (first | exact (Kd.S_reads' HO519.out).2.2 | (with_reducible refine Kd.C_alloc ?_ _) | (with_reducible refine Kd.C_drewN ?_ _) | (with_reducible refine Kd.C_drew ?_))); (case side2 => exact (Kd.S_reads' HO519.out).2.1); (case side3 => repeat (first | exact (Kd.S_reads' HO522.out).2.2 | (with_reducible refine Kd.C_alloc ?_ _) | (with_reducible refine Kd.C_drewN ?_ _) | (with_reducible refine Kd.C_drew ?_))); (case side4 => exact (Kd.S_reads' HO522.out).2.1); rintro e w19 ⟨rfl, hb⟩; refine ⟨_, rfl, ?_⟩; replace HO519 := As.mk (Kd.S_below (by (with_reducible repeat (first | apply Kd.S_alloc | apply Kd.S_drewN | apply Kd.S_drew)); exact HO519.out) hb); replace HO522 := As.mk (Kd.S_below (by (with_reducible repeat (first | apply Kd.S_alloc | apply Kd.S_drewN | apply Kd.S_drew)); exact HO522.out) hb); replace BK515 := bb BK515 hb; replace HB := bs w hb; (try clear hb); (try clear hk); obtain ⟨y20a, y20b, v20a, v20b⟩ := cl2 BK515.out) | ((with_reducible refine gate_callee (f := 11) rfl ?_); refine goL (some 21) Tryz.func11 #[.agg #[.slice A0_0 l0_0.length c0_0, .slice A0_1 l0_1.length c0_1]] ?_; (with_reducible refine (laws_toProgram.calls k _ _ l0_0 _ _ l0_1 t525 t528 _ (cb HR0_0) HC0_0.out (cb HR0_1) HC0_1.out A9.out).mono ?_); rintro e w21 ⟨v526, v529, rfl, ho0, ho1, hb⟩; refine ⟨_, rfl, ?_⟩; have HO527 := As.mk (Kd.S_lower ho0 (below_size (be w))); have HO530 := As.mk (Kd.S_lower ho1 (below_size (be w))); replace BK515 := bb BK515 hb; replace HB := bs w hb; (try clear hb); (try clear hk); (try clear ho0); (try clear ho1)) | ((with_reducible refine gate_dst (N := 6) rfl ?_); refine bxe 6 #[.slice none 0 0, .slice none 0 0] 32 ?_; intro gb531 hg w22 BK531 hb; replace HO527 := As.mk (Kd.S_below (by (with_reducible repeat (first | apply Kd.S_alloc | apply Kd.S_drewN | apply Kd.S_drew)); exact HO527.out) hb); replace HO530 := As.mk (Kd.S_below (by (with_reducible repeat (first | apply Kd.S_alloc | apply Kd.S_drewN | apply Kd.S_drew)); exact HO530.out) hb); have GW531 := As.mk (gs w hg); replace HB := bs w hb; have NB515_531 := As.mk (nl hg (bx BK515.out)); have NB531_515 := As.mk (ng hg (bx BK515.out)); replace BK515 := bb BK515 hb; clear hb hg; obtain ⟨Ao23, co23, eo23⟩ := Kd.S_slice HO527.out; subst eo23; have hnb24 := NB531_515.out; have hnc24 := NB515_531.out; obtain ⟨y25a, y25b, v25a, v25b⟩ := cl2 BK531.out; obtain ⟨Ao26, co26, eo26⟩ := Kd.S_slice HO530.out; subst eo26) | ((with_reducible refine gate_callee (f := 21) rfl ?_); refine goL (some 24) Tryz.func21 #[.agg #[.slice Ao23 t525.length co23, .slice Ao26 t528.length co26]] ?_; (with_reducible refine (impl_ShowProgram.calls k _ _ t525 _ _ t528 t532 t533 _ ?side1 ?side2 ?side3 ?side4 (by first | (with_reducible exact HTAB.out) | exact tabW_below HTAB.out (be w)) A10.out).mono ?_); (case side1 => refine (Kd.S_reads' (e := 62) (base := w.heap.size) (ok := fun k_ => True) (n := t525.length) (c := co23) ?_).2.2; exact (by (with_reducible repeat (first | apply Kd.S_alloc | apply Kd.S_drewN | apply Kd.S_drew)); exact (Kd.S_mono (Kd.S_far (p := ⟨gb531, 1, none⟩) (Kd.S_far (p := ⟨gb531, 0, none⟩) (Kd.S_types HO527.out BK531.out (by decide)) (fun _ hk => hk.2) (.slice Ao23 t525.length co23)) (fun _ hk => hk.2) (.slice Ao26 t528.length co26)) (fun _ h_ => h_.1)))); (case side2 => exact (Kd.S_reads' HO527.out).2.1); (case side3 => refine (Kd.S_reads' (e := 56) (base := w.heap.size) (ok := fun k_ => True) (n := t528.length) (c := co26) ?_).2.2; exact (by (with_reducible repeat (first | apply Kd.S_alloc | apply Kd.S_drewN | apply Kd.S_drew)); exact (Kd.S_mono (Kd.S_far (p := ⟨gb531, 1, none⟩) (Kd.S_far (p := ⟨gb531, 0, none⟩) (Kd.S_types HO530.out BK531.out (by decide)) (fun _ hk => hk.2) (.slice Ao23 t525.length co23)) (fun _ hk => hk.2) (.slice Ao26 t528.length co26)) (fun _ h_ => h_.1)))); (case side4 => exact (Kd.S_reads' HO530.out).2.1); rintro e w27 ⟨rfl, hb⟩; refine ⟨_, rfl, ?_⟩; replace HO527 := As.mk (Kd.S_below (by (with_reducible repeat (first | apply Kd.S_alloc | apply Kd.S_drewN | apply Kd.S_drew)); exact (Kd.S_mono (Kd.S_far (p := ⟨gb531, 1, none⟩) (Kd.S_far (p := ⟨gb531, 0, none⟩) (Kd.S_types HO527.out BK531.out (by decide)) (fun _ hk => hk.2) (.slice Ao23 t525.length co23)) (fun _ hk => hk.2) (.slice Ao26 t528.length co26)) (fun _ h_ => h_.1))) hb); replace HO530 := As.mk (Kd.S_below (by (with_reducible repeat (first | apply Kd.S_alloc | apply Kd.S_drewN | apply Kd.S_drew)); exact (Kd.S_mono (Kd.S_far (p := ⟨gb531, 1, none⟩) (Kd.S_far (p := ⟨gb531, 0, none⟩) (Kd.S_types HO530.out BK531.out (by decide)) (fun _ hk => hk.2) (.slice Ao23 t525.length co23)) (fun _ hk => hk.2) (.slice Ao26 t528.length co26)) (fun _ h_ => h_.1))) hb); replace BK515 := As.mk (blk_below (g := gb515) (o := .cells #[.slice A0_0 l0_0.length c0_0, .slice A0_1 l0_1.length c0_1] 25 (0, 0)) (by refine pl ?_; refine blk_far ?_ NB515_531.out _; refine pl ?_; refine blk_far ?_ NB515_531.out _; exact bx BK515.out) hb); replace BK531 := As.mk (blk_below (g := gb531) (o := .cells #[.slice Ao23 t525.length co23, .slice Ao26 t528.length co26] 32 (0, 0)) (by exact pl (bp2 (bx BK531.out))) hb); replace HB := bs w hb; (try clear hb); (try clear hk)))
 (try simp only [pk])
 go_cut [34] (fun v34 wc => ∃ (kq : Nat) (x34_10 : Bool), v34 = .bool x34_10 ∧ As (laws_FnExactShowProgram.j0 kq x34_10 l0_0 l0_1 t525 t528 = some r) ∧ As (kq ≤ k) ∧ As (Kd.S k62 62 wc w.heap.size (fun _ => True) (.slice Ao23 t525.length co23) t525) ∧ As (Kd.S k56 56 wc w.heap.size (fun _ => True) (.slice Ao26 t528.length co26) t528) ∧ As (wc.heap[gb515]? = some (.cells #[(.slice A0_0 l0_0.length c0_0), (.slice A0_1 l0_1.length c0_1)] 25 (0, 0))) ∧ As (wc.heap[gb531]? = some (.cells #[(.slice Ao23 t525.length co23), (.slice Ao26 t528.length co26)] 32 (0, 0))) ∧ As (Below w.heap.size w wc))
 case first =>
  have H := HC11.out; clear HC11
  by_cases c28 : t532.toList = t523.toList
  rotate_left
  ·
   rw [if_neg c28] at H; have c28b0 : (t532.toList == t523.toList) = false := beq_eq_false_iff_ne.mpr c28; have c28b1 : (t532.toList != t523.toList) = true := bne_iff_ne.mpr c28
   (first | rw [c28b0] | (simp only [i64_w, i32_w]; rw [c28b0]) | skip)
   have H' := As.mk H; clear H
   go_wp2
   go_meet
   case rel => exact ⟨_, (true), (by first | rfl | (simp; done) | (simp [*]; done)), H', ⟨by first | omega | exact Nat.le_refl _⟩, ⟨by (with_reducible repeat (first | apply Kd.S_alloc | apply Kd.S_drewN | apply Kd.S_drew)); exact HO527.out⟩, ⟨by (with_reducible repeat (first | apply Kd.S_alloc | apply Kd.S_drewN | apply Kd.S_drew)); exact HO530.out⟩, ⟨bx BK515.out⟩, ⟨bx BK531.out⟩, ⟨be w⟩⟩
  rw [if_pos c28] at H; have c28b0 : (t532.toList == t523.toList) = true := beq_iff_eq.mpr c28; have c28b1 : (t532.toList != t523.toList) = false := bne_eq_false_iff_eq.mpr c28; clear c28
  (first | rw [c28b0] | (simp only [i64_w, i32_w]; rw [c28b0]) | skip)
  have H' := As.mk H; clear H
  go_wp2
  go_meet
  case rel => exact ⟨_, ((t533 != t524)), (by first | rfl | (simp; done) | (simp [*]; done)), H', ⟨by first | omega | exact Nat.le_refl _⟩, ⟨by (with_reducible repeat (first | apply Kd.S_alloc | apply Kd.S_drewN | apply Kd.S_drew)); exact HO527.out⟩, ⟨by (with_reducible repeat (first | apply Kd.S_alloc | apply Kd.S_drewN | apply Kd.S_drew)); exact HO530.out⟩, ⟨bx BK515.out⟩, ⟨bx BK531.out⟩, ⟨be w⟩⟩
 case rest =>
  clear HC11; (try clear c3); (try clear c3b0); (try clear y13a); (try clear y13b); (try clear y15a); (try clear y15b); (try clear y20a); (try clear y20b); (try clear y25a); (try clear y25b); (try clear v13a); (try clear v13b); (try clear v15a); (try clear v15b); (try clear v20a); (try clear v20b); (try clear v25a); (try clear v25b); obtain ⟨kq, x34_10, rfl, HA, HJ10, HO_532000, HO_532001, BK515, BK531, HB⟩ := hcut
  cases kq with
  | zero => exact absurd HA.out (by simp [laws_FnExactShowProgram.j0])
  | succ kj10 =>
   have H := HA.out; clear HA
   simp only [laws_FnExactShowProgram.j0] at H
   by_cases c29 : x34_10 = true
   ·
    subst c29; rw [if_pos rfl] at H
    exact absurd H (by rw [hrt.out]; simp)
   replace c29 := Bool.eq_false_iff.mpr c29; subst c29; rw [if_neg ft] at H; replace H := bo H; obtain ⟨⟨t534, t537⟩, A30, H⟩ := H
   try dsimp only at H
   replace H := bo H; obtain ⟨t540, A31, H⟩ := H
   by_cases c32 : t540 = true
   rotate_left
   ·
    replace c32 := Bool.eq_false_iff.mpr c32; subst c32; rw [if_neg ft] at H
    exact absurd H (by rw [hrt.out]; simp)

   subst c32; rw [if_pos rfl] at H; obtain rfl := sj H
   try go_wp2
   replace HO_532000 := As.mk (Kd.S_drew HO_532000.out); replace HO_532001 := As.mk (Kd.S_drew HO_532001.out); replace BK515 := As.mk (blk_drew BK515.out); replace BK531 := As.mk (blk_drew BK531.out); replace HB := As.mk (below_drew1 HB.out)
   refine start_ (n := 5) (S := _) (ds := []) #[O,O,O,O,O] (by kernel_rfl) rfl rfl (ba (bf BK531.out) (bf BK515.out)) (fun hHeld => ?_)
   generalize wc.drew = w33 at HO_532000 HO_532001 BK515 BK531 HB hHeld ⊢
   refine take_ (i := 0) (N := some 35) (v := ?_) (a' := ?_) #[I,O,O,O,O] rfl rfl (by kernel_rfl) (fun _ _ _ h => h) (Or.inl ⟨by rfl, ?_⟩) hHeld ?_ ?_
   rotate_left; · rintro w' ⟨b0, b1⟩; obtain ⟨_, _⟩ := cq2 b0; obtain ⟨_, _⟩ := cq2 b1; go_simp; with_reducible rfl
   rotate_left; · simp only [pk, i64_w, i32_w]; rfl
   refine take_ (i := 1) (N := some 36) (v := ?_) (a' := ?_) #[I,I,O,O,O] rfl rfl (by kernel_rfl) (fun _ _ _ h => h) (Or.inl ⟨by rfl, ?_⟩) hHeld ?_ ?_
   rotate_left; · rintro w' ⟨b0, b1⟩; obtain ⟨_, _⟩ := cq2 b0; obtain ⟨_, _⟩ := cq2 b1; go_simp; with_reducible rfl
   rotate_left; · simp only [pk, i64_w, i32_w]; rfl
   refine one_ (i := 2) (N := some 37) #[I,I,I,O,O] rfl rfl (by kernel_rfl) (by decide) (fun K hK => ?_)
   refine goS Tryz.func11 #[.agg #[.slice A0_0 l0_0.length c0_0, .slice A0_1 l0_1.length c0_1]] ?_
   with_reducible refine (laws_toProgram.calls kj10 _ _ l0_0 _ _ l0_1 t534 t537 _ ?side1 ?side2 ?side3 ?side4 A30.out).mono ?_
   (case side1 => exact Kd.C_below HR0_0.out (be w))
   (case side2 => exact HC0_0.out)
   (case side3 => exact Kd.C_below HR0_1.out (be w))
   (case side4 => exact HC0_1.out)
   rintro e w34 ⟨v535, v538, rfl, ho0, ho1, hb⟩
   refine ⟨_, rfl, ?_⟩
   have HO536 := As.mk (Kd.S_lower (Kd.S_new' ho0 (Kd.S_lt (by (with_reducible repeat (first | apply Kd.S_alloc | apply Kd.S_drewN | apply Kd.S_drew)); exact HO_532000.out))) (below_size (be w))); replace HO_532000 := As.mk (Kd.S_elder' (by (with_reducible repeat (first | apply Kd.S_alloc | apply Kd.S_drewN | apply Kd.S_drew)); exact HO_532000.out) (Kd.S_base ho0) hb); have HO539 := As.mk (Kd.S_lower (Kd.S_new' ho1 (Kd.S_lt (by (with_reducible repeat (first | apply Kd.S_alloc | apply Kd.S_drewN | apply Kd.S_drew)); exact HO_532001.out))) (below_size (be w))); replace HO_532001 := As.mk (Kd.S_elder' (by (with_reducible repeat (first | apply Kd.S_alloc | apply Kd.S_drewN | apply Kd.S_drew)); exact HO_532001.out) (Kd.S_base ho1) hb); replace BK515 := bb BK515 hb; replace BK531 := bb BK531 hb; replace HB := bs w hb; (try clear hb); (try clear hb2); (try clear hk); (try clear hi); (try clear ho0); (try clear ho1); obtain ⟨Ao35, co35, eo35⟩ := Kd.S_slice HO536.out
   (first | subst eo35 | (injection eo35 with f1_ f2_ f3_; have f4_ := f1_.symm; have f5_ := f3_.symm; clear f1_ f2_ f3_; subst f4_; subst f5_))
   obtain ⟨Ao36, co36, eo36⟩ := Kd.S_slice HO539.out
   (first | subst eo36 | (injection eo36 with f1_ f2_ f3_; have f4_ := f1_.symm; have f5_ := f3_.symm; clear f1_ f2_ f3_; subst f4_; subst f5_))
   refine hK.out _ _ (ba (bf BK531.out) (bf BK515.out)) (fun hHeld => ?_)
   clear hK K; refine nm _ ?_
   refine one_ (i := 3) (N := some 38) #[I,I,I,I,O] rfl rfl (by kernel_rfl) (by decide) (fun K hK => ?_)
   refine goS Tryz.func14 #[.agg #[.slice Ao23 t525.length co23, .slice Ao26 t528.length co26], .agg #[.slice Ao35 t534.length co35, .slice Ao36 t537.length co36]] ?_
   with_reducible refine (laws_eqProgram.calls kj10 _ _ t525 _ _ t528 _ _ t534 _ _ t537 true _ ?side1 ?side2 ?side3 ?side4 ?side5 ?side6 ?side7 ?side8 A31.out).mono ?_
   (case side1 => repeat (first | exact (Kd.S_reads' HO_532000.out).2.2 | (with_reducible refine Kd.C_alloc ?_ _) | (with_reducible refine Kd.C_drewN ?_ _) | (with_reducible refine Kd.C_drew ?_)))
   (case side2 => exact (Kd.S_reads' HO_532000.out).2.1)
   (case side3 => repeat (first | exact (Kd.S_reads' HO_532001.out).2.2 | (with_reducible refine Kd.C_alloc ?_ _) | (with_reducible refine Kd.C_drewN ?_ _) | (with_reducible refine Kd.C_drew ?_)))
   (case side4 => exact (Kd.S_reads' HO_532001.out).2.1)
   (case side5 => repeat (first | exact (Kd.S_reads' HO536.out).2.2 | (with_reducible refine Kd.C_alloc ?_ _) | (with_reducible refine Kd.C_drewN ?_ _) | (with_reducible refine Kd.C_drew ?_)))
   (case side6 => exact (Kd.S_reads' HO536.out).2.1)
   (case side7 => repeat (first | exact (Kd.S_reads' HO539.out).2.2 | (with_reducible refine Kd.C_alloc ?_ _) | (with_reducible refine Kd.C_drewN ?_ _) | (with_reducible refine Kd.C_drew ?_)))
   (case side8 => exact (Kd.S_reads' HO539.out).2.1)
   rintro e w37 ⟨rfl, hb⟩
   refine ⟨_, rfl, ?_⟩
   replace HO_532000 := As.mk (Kd.S_below (by (with_reducible repeat (first | apply Kd.S_alloc | apply Kd.S_drewN | apply Kd.S_drew)); exact HO_532000.out) hb); replace HO_532001 := As.mk (Kd.S_below (by (with_reducible repeat (first | apply Kd.S_alloc | apply Kd.S_drewN | apply Kd.S_drew)); exact HO_532001.out) hb); replace HO536 := As.mk (Kd.S_below (by (with_reducible repeat (first | apply Kd.S_alloc | apply Kd.S_drewN | apply Kd.S_drew)); exact HO536.out) hb); replace HO539 := As.mk (Kd.S_below (by (with_reducible repeat (first | apply Kd.S_alloc | apply Kd.S_drewN | apply Kd.S_drew)); exact HO539.out) hb); replace BK515 := bb BK515 hb; replace BK531 := bb BK531 hb; replace HB := bs w hb; (try clear hb); (try clear hb2); (try clear hk); (try clear hi)
   refine hK.out _ _ (ba (bf BK531.out) (bf BK515.out)) (fun hHeld => ?_)
   clear hK K; refine nm _ ?_
   refine pure_ (i := 4) (N := some 39) (v := ?_) (a' := ?_) #[I,I,I,I,I] rfl rfl (by kernel_rfl) (fun _ _ _ h => h) (Or.inl ⟨by rfl, ?_⟩) ?_ ?_
   rotate_left; · intro w'; go_simp; with_reducible rfl
   rotate_left; · simp only [pk, i64_w, i32_w]; rfl
   refine done_ (by kernel_rfl) ?_
   try go_wp2
   go_ret
   exact ⟨ez, be w⟩
end Go.Proofs.YtcoapbnbakmkoaaGreatDoor.PFnExactShowProgram
