/- Written by a program of this session (a turned copy of the kit's print): a contract for each Go function. No condition beside those in each statement. -/
import Derived.Test.YtnlhjblfemgggaaPFnExactLookedx0
import Derived.Test.YtnlhjblfemgggaaPFnExactLookedx1
import Derived.Test.YtnlhjblfemgggaaPFnExactLookedx2
import Derived.Test.YtnlhjblfemgggaaPFnExactLookedx3
import Derived.Test.YtnlhjblfemgggaaPFnExactLookedx4
import Derived.Test.YtnlhjblfemgggaaPFnExactLookedx5
namespace Go.Proofs.Ytnlhjblfemgggaa.PFnExactLooked
open Go.RowKit Go.Proofs.YtnlhjblfemgggaaW.PrintWords Go.Proofs.YtnlhjblfemgggaaW.PrintLast Go.Proofs.YtnlhjblfemgggaaW.PrintMore
attribute [local go_sem] max2_int min2_int max_two min_two max_three min_three max_four min_four   -- for this text's walks alone
set_option linter.unusedVariables false
set_option linter.unusedSimpArgs false

set_option maxHeartbeats 8000000 in
set_option maxRecDepth 100000 in
theorem laws_FnExactLooked.calls (k : Nat) (A0_0 : Option Addr) (c0_0 : Nat) (l0_0 : List (S98)) (A0_1 : Option Addr) (c0_1 : Nat) (l0_1 : List Int) (A0_2 : Option Addr) (c0_2 : Nat) (l0_2 : List Int) (a0_3 : Int) (a0_4 : Int) (a1_0 : Int) (a1_1 : Int) (r : Bool) (w : World) (hr0_0 : Kd.C k98 w A0_0 l0_0.length l0_0) (hc0_0 : l0_0.length ≤ c0_0) (hr0_1 : Kd.C (Kd.int .i64) w A0_1 l0_1.length l0_1) (hc0_1 : l0_1.length ≤ c0_1) (hr0_2 : Kd.C (Kd.int .i64) w A0_2 l0_2.length l0_2) (hc0_2 : l0_2.length ≤ c0_2) (hrt : As (r = true)) (h : laws_FnExactLooked.f k l0_0 l0_1 l0_2 a0_3 a0_4 a1_0 a1_1 = some r) :
  Calls Try.prog 8 #[.agg #[.slice A0_0 l0_0.length c0_0, .slice A0_1 l0_1.length c0_1, .slice A0_2 l0_2.length c0_2, .int .i64 a0_3, .int .i64 a0_4], .agg #[.int .i64 a1_0, .int .i64 a1_1]] w fun e w' => e = .returned (.bool r) ∧ Below w.heap.size w w' := by
 refine laws_FnExactLooked.callsP0.2 ⟨?_⟩ k A0_0 c0_0 l0_0 A0_1 c0_1 l0_1 A0_2 c0_2 l0_2 a0_3 a0_4 a1_0 a1_1 r w hr0_0 hc0_0 hr0_1 hc0_1 hr0_2 hc0_2 hrt h
 clear h hrt hc0_2 hr0_2 hc0_1 hr0_1 hc0_0 hr0_0 w r a1_1 a1_0 a0_4 a0_3 l0_2 c0_2 A0_2 l0_1 c0_1 A0_1 l0_0 c0_0 A0_0 k
 delta laws_FnExactLooked.callsP0
 dsimp only
 (set_option tactic.hygienic false in intros)
 (try rename World => wc)
 clear HC130
 (try clear hcz101_0); (try clear hcz101_1); (try clear hcz101_2); (try clear hcz101_3); (try clear hcz101_4); (try clear hcz135_0); (try clear hcz135_1); (try clear hcz135_2); (try clear hcz135_3); (try clear hcz135_4); (try clear hcz137_0); (try clear hcz137_1); (try clear hcz137_2); (try clear hcz137_3); (try clear hcz137_4); (try clear hfz101_0); (try clear hfz101_1); (try clear hfz101_2); (try clear hfz101_3); (try clear hfz101_4); (try clear hfz135_0); (try clear hfz135_1); (try clear hfz135_2); (try clear hfz135_3); (try clear hfz135_4); (try clear hfz137_0); (try clear hfz137_1); (try clear hfz137_2); (try clear hfz137_3); (try clear hfz137_4)
 obtain ⟨kq, HA, HJ129, HO_287000, HO_287001, HO_287002, HO_299000, HO_299001, HO_299002, HO_314000, HO_314001, HO_314002, BK258, BK259, BK286, BK298, BK313, HB⟩ := hcut
 have hl314000_129 := (Kd.R_reads' HO_314000.out).1
 rw [hl314000_129] at HO_314000
 (try simp only [hl314000_129])
 (try simp only [hl314000_129] at BK258)
 (try simp only [hl314000_129] at BK259)
 (try simp only [hl314000_129] at BK286)
 (try simp only [hl314000_129] at BK298)
 (try simp only [hl314000_129] at BK313)
 (try simp only [hl314000_129] at HO_287000)
 (try simp only [hl314000_129] at HO_287001)
 (try simp only [hl314000_129] at HO_287002)
 (try simp only [hl314000_129] at HO_299000)
 (try simp only [hl314000_129] at HO_299001)
 (try simp only [hl314000_129] at HO_299002)
 (try simp only [hl314000_129] at HO_314001)
 (try simp only [hl314000_129] at HO_314002)
 have hl314001_129 := (Kd.R_reads' HO_314001.out).1
 rw [hl314001_129] at HO_314001
 (try simp only [hl314001_129])
 (try simp only [hl314001_129] at BK258)
 (try simp only [hl314001_129] at BK259)
 (try simp only [hl314001_129] at BK286)
 (try simp only [hl314001_129] at BK298)
 (try simp only [hl314001_129] at BK313)
 (try simp only [hl314001_129] at HO_287000)
 (try simp only [hl314001_129] at HO_287001)
 (try simp only [hl314001_129] at HO_287002)
 (try simp only [hl314001_129] at HO_299000)
 (try simp only [hl314001_129] at HO_299001)
 (try simp only [hl314001_129] at HO_299002)
 (try simp only [hl314001_129] at HO_314000)
 (try simp only [hl314001_129] at HO_314002)
 have hl314002_129 := (Kd.R_reads' HO_314002.out).1
 rw [hl314002_129] at HO_314002
 (try simp only [hl314002_129])
 (try simp only [hl314002_129] at BK258)
 (try simp only [hl314002_129] at BK259)
 (try simp only [hl314002_129] at BK286)
 (try simp only [hl314002_129] at BK298)
 (try simp only [hl314002_129] at BK313)
 (try simp only [hl314002_129] at HO_287000)
 (try simp only [hl314002_129] at HO_287001)
 (try simp only [hl314002_129] at HO_287002)
 (try simp only [hl314002_129] at HO_299000)
 (try simp only [hl314002_129] at HO_299001)
 (try simp only [hl314002_129] at HO_299002)
 (try simp only [hl314002_129] at HO_314000)
 (try simp only [hl314002_129] at HO_314001)
 cases kq with
 | zero => exact absurd HA.out (by simp [laws_FnExactLooked.j6])
 | succ kj129 =>
  have H := HA.out
  clear HA
  simp only [laws_FnExactLooked.j6] at H
  have HC140 := As.mk H
  clear H
  go_upto_if 78 with (fail)
  go_cut [] (fun wc => ∃ (kq : Nat), As (laws_FnExactLooked.j7 kq t285 t332 l0_0 l0_1 l0_2 a0_3 a0_4 a1_0 a1_1 t274 t277 t280 t283 t284 t333 t334 t335 t310 t311 = some r) ∧ As (kq ≤ kj129) ∧ As (Kd.R k93 93 wc w.heap.size (fun k_ => some k_ ≠ ((.slice Ao40 t328.length co40) : Value).ownBlock ∧ some k_ ≠ ((.slice Ao53 t333.length co53) : Value).ownBlock) (.slice Ao27 t274.length co27) t274) ∧ As (Kd.R (Kd.int .i64) 3 wc w.heap.size (fun k_ => some k_ ≠ ((.slice Ao31 t280.length co31) : Value).ownBlock ∧ some k_ ≠ ((.slice Ao45 t329.length co45) : Value).ownBlock ∧ some k_ ≠ ((.slice Ao46 t330.length co46) : Value).ownBlock ∧ some k_ ≠ ((.slice Ao55 t334.length co55) : Value).ownBlock ∧ some k_ ≠ ((.slice Ao57 t335.length co57) : Value).ownBlock) (.slice Ao29 t277.length co29) t277) ∧ As (Kd.R (Kd.int .i64) 3 wc w.heap.size (fun k_ => some k_ ≠ ((.slice Ao29 t277.length co29) : Value).ownBlock ∧ some k_ ≠ ((.slice Ao45 t329.length co45) : Value).ownBlock ∧ some k_ ≠ ((.slice Ao46 t330.length co46) : Value).ownBlock ∧ some k_ ≠ ((.slice Ao55 t334.length co55) : Value).ownBlock ∧ some k_ ≠ ((.slice Ao57 t335.length co57) : Value).ownBlock) (.slice Ao31 t280.length co31) t280) ∧ As (Kd.R k93 93 wc w.heap.size (fun k_ => some k_ ≠ ((.slice Ao27 t274.length co27) : Value).ownBlock ∧ some k_ ≠ ((.slice Ao53 t333.length co53) : Value).ownBlock) (.slice Ao40 t328.length co40) t328) ∧ As (Kd.R (Kd.int .i64) 3 wc w.heap.size (fun k_ => some k_ ≠ ((.slice Ao29 t277.length co29) : Value).ownBlock ∧ some k_ ≠ ((.slice Ao31 t280.length co31) : Value).ownBlock ∧ some k_ ≠ ((.slice Ao46 t330.length co46) : Value).ownBlock ∧ some k_ ≠ ((.slice Ao55 t334.length co55) : Value).ownBlock ∧ some k_ ≠ ((.slice Ao57 t335.length co57) : Value).ownBlock) (.slice Ao45 t329.length co45) t329) ∧ As (Kd.R (Kd.int .i64) 3 wc w.heap.size (fun k_ => some k_ ≠ ((.slice Ao29 t277.length co29) : Value).ownBlock ∧ some k_ ≠ ((.slice Ao31 t280.length co31) : Value).ownBlock ∧ some k_ ≠ ((.slice Ao45 t329.length co45) : Value).ownBlock ∧ some k_ ≠ ((.slice Ao55 t334.length co55) : Value).ownBlock ∧ some k_ ≠ ((.slice Ao57 t335.length co57) : Value).ownBlock) (.slice Ao46 t330.length co46) t330) ∧ As (Kd.R k93 93 wc w.heap.size (fun k_ => some k_ ≠ ((.slice Ao27 t274.length co27) : Value).ownBlock ∧ some k_ ≠ ((.slice Ao40 t328.length co40) : Value).ownBlock) (.slice Ao53 t333.length co53) t333) ∧ As (Kd.R (Kd.int .i64) 3 wc w.heap.size (fun k_ => some k_ ≠ ((.slice Ao29 t277.length co29) : Value).ownBlock ∧ some k_ ≠ ((.slice Ao31 t280.length co31) : Value).ownBlock ∧ some k_ ≠ ((.slice Ao45 t329.length co45) : Value).ownBlock ∧ some k_ ≠ ((.slice Ao46 t330.length co46) : Value).ownBlock ∧ some k_ ≠ ((.slice Ao57 t335.length co57) : Value).ownBlock) (.slice Ao55 t334.length co55) t334) ∧ As (Kd.R (Kd.int .i64) 3 wc w.heap.size (fun k_ => some k_ ≠ ((.slice Ao29 t277.length co29) : Value).ownBlock ∧ some k_ ≠ ((.slice Ao31 t280.length co31) : Value).ownBlock ∧ some k_ ≠ ((.slice Ao45 t329.length co45) : Value).ownBlock ∧ some k_ ≠ ((.slice Ao46 t330.length co46) : Value).ownBlock ∧ some k_ ≠ ((.slice Ao55 t334.length co55) : Value).ownBlock) (.slice Ao57 t335.length co57) t335) ∧ As (wc.heap[gb258]? = some (.cells #[(.slice A0_0 l0_0.length c0_0), (.slice A0_1 l0_1.length c0_1), (.slice A0_2 l0_2.length c0_2), .int .i64 a0_3, .int .i64 a0_4] 47 (0, 0))) ∧ As (wc.heap[gb259]? = some (.cells #[.int .i64 a1_0, .int .i64 a1_1] 48 (0, 0))) ∧ As (wc.heap[gb286]? = some (.cells #[(.slice Ao27 t274.length co27), (.slice Ao29 t277.length co29), (.slice Ao31 t280.length co31), .int .i64 t283, .int .i64 t284] 34 (0, 0))) ∧ As (wc.heap[gb298]? = some (.cells #[(.slice Ao40 t328.length co40), (.slice Ao45 t329.length co45), (.slice Ao46 t330.length co46), .int .i64 t296, .int .i64 t297] 34 (0, 0))) ∧ As (wc.heap[gb313]? = some (.cells #[(.slice Ao53 t333.length co53), (.slice Ao55 t334.length co55), (.slice Ao57 t335.length co57), .int .i64 t310, .int .i64 t311] 34 (0, 0))) ∧ As (Below w.heap.size w wc))
  case first =>
   have H := HC140.out
   clear HC140
   by_cases c141 : t336 = t332
   rotate_left
   ·
    rw [if_neg c141] at H
    have c141b0 : (t336 == t332) = false := beq_eq_false_iff_ne.mpr c141
    have c141b1 : (t336 != t332) = true := bne_iff_ne.mpr c141
    (first | rw [c141b0] | (simp only [i64_w, i32_w]; rw [c141b0]) | skip)
    exact absurd H (by rw [hrt.out]; simp)
   rw [if_pos c141] at H
   have c141b0 : (t336 == t332) = true := beq_iff_eq.mpr c141
   have c141b1 : (t336 != t332) = false := bne_eq_false_iff_eq.mpr c141
   clear c141
   (first | rw [c141b0] | (simp only [i64_w, i32_w]; rw [c141b0]) | skip)
   have H' := As.mk H
   clear H
   go_wp2
   go_meet
   case rel => exact ⟨_, H', ⟨by have := HJ3.out; have := HJ16.out; have := HJ82.out; have := HJ86.out; have := HJ95.out; have := HJ125.out; have := HJ129.out; first | omega | exact Nat.le_refl _⟩, ⟨by (try simp only [hl299000_95]); (try simp only [hl299001_95]); (try simp only [hl299002_95]); (try simp only [hl314000_129]); (try simp only [hl314001_129]); (try simp only [hl314002_129]); (with_reducible repeat (first | apply Kd.R_alloc | apply Kd.R_drewN | apply Kd.R_drew)); exact HO_287000.out⟩, ⟨by (try simp only [hl299000_95]); (try simp only [hl299001_95]); (try simp only [hl299002_95]); (try simp only [hl314000_129]); (try simp only [hl314001_129]); (try simp only [hl314002_129]); (with_reducible repeat (first | apply Kd.R_alloc | apply Kd.R_drewN | apply Kd.R_drew)); exact HO_287001.out⟩, ⟨by (try simp only [hl299000_95]); (try simp only [hl299001_95]); (try simp only [hl299002_95]); (try simp only [hl314000_129]); (try simp only [hl314001_129]); (try simp only [hl314002_129]); (with_reducible repeat (first | apply Kd.R_alloc | apply Kd.R_drewN | apply Kd.R_drew)); exact HO_287002.out⟩, ⟨by (try simp only [hl299000_95]); (try simp only [hl299001_95]); (try simp only [hl299002_95]); (try simp only [hl314000_129]); (try simp only [hl314001_129]); (try simp only [hl314002_129]); (with_reducible repeat (first | apply Kd.R_alloc | apply Kd.R_drewN | apply Kd.R_drew)); exact HO_299000.out⟩, ⟨by (try simp only [hl299000_95]); (try simp only [hl299001_95]); (try simp only [hl299002_95]); (try simp only [hl314000_129]); (try simp only [hl314001_129]); (try simp only [hl314002_129]); (with_reducible repeat (first | apply Kd.R_alloc | apply Kd.R_drewN | apply Kd.R_drew)); exact HO_299001.out⟩, ⟨by (try simp only [hl299000_95]); (try simp only [hl299001_95]); (try simp only [hl299002_95]); (try simp only [hl314000_129]); (try simp only [hl314001_129]); (try simp only [hl314002_129]); (with_reducible repeat (first | apply Kd.R_alloc | apply Kd.R_drewN | apply Kd.R_drew)); exact HO_299002.out⟩, ⟨by (try simp only [hl299000_95]); (try simp only [hl299001_95]); (try simp only [hl299002_95]); (try simp only [hl314000_129]); (try simp only [hl314001_129]); (try simp only [hl314002_129]); (with_reducible repeat (first | apply Kd.R_alloc | apply Kd.R_drewN | apply Kd.R_drew)); exact HO_314000.out⟩, ⟨by (try simp only [hl299000_95]); (try simp only [hl299001_95]); (try simp only [hl299002_95]); (try simp only [hl314000_129]); (try simp only [hl314001_129]); (try simp only [hl314002_129]); (with_reducible repeat (first | apply Kd.R_alloc | apply Kd.R_drewN | apply Kd.R_drew)); exact HO_314001.out⟩, ⟨by (try simp only [hl299000_95]); (try simp only [hl299001_95]); (try simp only [hl299002_95]); (try simp only [hl314000_129]); (try simp only [hl314001_129]); (try simp only [hl314002_129]); (with_reducible repeat (first | apply Kd.R_alloc | apply Kd.R_drewN | apply Kd.R_drew)); exact HO_314002.out⟩, ⟨by (try simp only [hl299000_95]); (try simp only [hl299001_95]); (try simp only [hl299002_95]); (try simp only [hl314000_129]); (try simp only [hl314001_129]); (try simp only [hl314002_129]); exact bx BK258.out⟩, ⟨by (try simp only [hl299000_95]); (try simp only [hl299001_95]); (try simp only [hl299002_95]); (try simp only [hl314000_129]); (try simp only [hl314001_129]); (try simp only [hl314002_129]); exact bx BK259.out⟩, ⟨by (try simp only [hl299000_95]); (try simp only [hl299001_95]); (try simp only [hl299002_95]); (try simp only [hl314000_129]); (try simp only [hl314001_129]); (try simp only [hl314002_129]); exact bx BK286.out⟩, ⟨by (try simp only [hl299000_95]); (try simp only [hl299001_95]); (try simp only [hl299002_95]); (try simp only [hl314000_129]); (try simp only [hl314001_129]); (try simp only [hl314002_129]); exact bx BK298.out⟩, ⟨by (try simp only [hl299000_95]); (try simp only [hl299001_95]); (try simp only [hl299002_95]); (try simp only [hl314000_129]); (try simp only [hl314001_129]); (try simp only [hl314002_129]); exact bx BK313.out⟩, ⟨be w⟩⟩
  case rest =>
   clear HC140
   (try clear hcz101_0); (try clear hcz101_1); (try clear hcz101_2); (try clear hcz101_3); (try clear hcz101_4); (try clear hcz135_0); (try clear hcz135_1); (try clear hcz135_2); (try clear hcz135_3); (try clear hcz135_4); (try clear hcz137_0); (try clear hcz137_1); (try clear hcz137_2); (try clear hcz137_3); (try clear hcz137_4); (try clear hfz101_0); (try clear hfz101_1); (try clear hfz101_2); (try clear hfz101_3); (try clear hfz101_4); (try clear hfz135_0); (try clear hfz135_1); (try clear hfz135_2); (try clear hfz135_3); (try clear hfz135_4); (try clear hfz137_0); (try clear hfz137_1); (try clear hfz137_2); (try clear hfz137_3); (try clear hfz137_4)
   obtain ⟨kq, HA, HJ139, HO_287000, HO_287001, HO_287002, HO_299000, HO_299001, HO_299002, HO_314000, HO_314001, HO_314002, BK258, BK259, BK286, BK298, BK313, HB⟩ := hcut
   cases kq with
   | zero => exact absurd HA.out (by simp [laws_FnExactLooked.j7])
   | succ kj139 =>
    have H := HA.out
    clear HA
    simp only [laws_FnExactLooked.j7] at H
    obtain ⟨⟨t337, t340, t343, t346, t347⟩, A1420, H⟩ := Option.bind_eq_some_iff.mp H
    try dsimp only at H
    have A142 := As.mk A1420
    clear A1420
    obtain ⟨⟨t348, t349⟩, A1430, H⟩ := Option.bind_eq_some_iff.mp H
    try dsimp only at H
    have A143 := As.mk A1430
    clear A1430
    obtain ⟨⟨t350, t353, t356, t359, t360, t361⟩, A1440, H⟩ := Option.bind_eq_some_iff.mp H
    try dsimp only at H
    have A144 := As.mk A1440
    clear A1440
    have HC145 := As.mk H
    clear H
    try go_wp2
    replace HO_287000 := As.mk (Kd.R_drew HO_287000.out)
    replace HO_287001 := As.mk (Kd.R_drew HO_287001.out)
    replace HO_287002 := As.mk (Kd.R_drew HO_287002.out)
    replace HO_299000 := As.mk (Kd.R_drew HO_299000.out)
    replace HO_299001 := As.mk (Kd.R_drew HO_299001.out)
    replace HO_299002 := As.mk (Kd.R_drew HO_299002.out)
    replace HO_314000 := As.mk (Kd.R_drew HO_314000.out)
    replace HO_314001 := As.mk (Kd.R_drew HO_314001.out)
    replace HO_314002 := As.mk (Kd.R_drew HO_314002.out)
    replace BK258 := As.mk (blk_drew BK258.out)
    replace BK259 := As.mk (blk_drew BK259.out)
    replace BK286 := As.mk (blk_drew BK286.out)
    replace BK298 := As.mk (blk_drew BK298.out)
    replace BK313 := As.mk (blk_drew BK313.out)
    replace HB := As.mk (below_drew1 HB.out)
    refine start_ (n := 11) (S := fun w' => w'.cell? ⟨gb258, 0, none⟩ = some (.slice A0_0 l0_0.length c0_0) ∧ w'.cell? ⟨gb258, 1, none⟩ = some (.slice A0_1 l0_1.length c0_1) ∧ w'.cell? ⟨gb258, 2, none⟩ = some (.slice A0_2 l0_2.length c0_2) ∧ w'.cell? ⟨gb258, 3, none⟩ = some (.int .i64 a0_3) ∧ w'.cell? ⟨gb258, 4, none⟩ = some (.int .i64 a0_4) ∧ w'.cell? ⟨gb259, 0, none⟩ = some (.int .i64 a1_0) ∧ w'.cell? ⟨gb259, 1, none⟩ = some (.int .i64 a1_1)) (ds := []) #[O, O, O, O, O, O, O, O, O, O, O] (by kernel_rfl) rfl rfl ⟨(blk_cell BK258.out 0).trans rfl, (blk_cell BK258.out 1).trans rfl, (blk_cell BK258.out 2).trans rfl, (blk_cell BK258.out 3).trans rfl, (blk_cell BK258.out 4).trans rfl, (blk_cell BK259.out 0).trans rfl, (blk_cell BK259.out 1).trans rfl⟩ (fun hHeld => ?_); refine with_tabW laws_FnExactLooked.tab24 laws_FnExactLooked.bits24 (fun HT_ HW_ => ?_)
    generalize wc.drew = w146 at HO_287000 HO_287001 HO_287002 HO_299000 HO_299001 HO_299002 HO_314000 HO_314001 HO_314002 BK258 BK259 BK286 BK298 BK313 HB hHeld ⊢
    refine take_ (i := 0) (N := some 80) (v := ?_) (a' := ?_) #[I, O, O, O, O, O, O, O, O, O, O] rfl rfl (take_ofW HT_.out HW_.out (by kernel_rfl)) (fun _ _ _ h => h) (Or.inl ⟨by rfl, ?_⟩) hHeld ?_ ?_
    rotate_left
    ·
     rintro w' ⟨s0, s1, s2, s3, s4, s5, s6⟩
     go_simp
     with_reducible rfl
    rotate_left
    ·
     simp only [pk, i64_w, i32_w]
     rfl
    refine take_ (i := 2) (N := some 82) (v := ?_) (a' := ?_) #[I, O, I, O, O, O, O, O, O, O, O] rfl rfl (take_ofW HT_.out HW_.out (by kernel_rfl)) (fun _ _ _ h => h) (Or.inl ⟨by rfl, ?_⟩) hHeld ?_ ?_
    rotate_left
    ·
     rintro w' ⟨s0, s1, s2, s3, s4, s5, s6⟩
     go_simp
     with_reducible rfl
    rotate_left
    ·
     simp only [pk, i64_w, i32_w]
     rfl
    refine join_ (σ := Value × Value × Value × Value × Value × Value × Nat) 2 #[true, true, true, true, true, true, true, true, true, false, false] (fun s_ => [(81, .agg #[s_.1, s_.2.1, s_.2.2.1, .int .i64 t346, .int .i64 t347]), (83, .agg #[.int .i64 t348, .int .i64 t349]), (84, .tuple #[.agg #[s_.2.2.2.1, s_.2.2.2.2.1, s_.2.2.2.2.2.1, .int .i64 t359, .int .i64 t360], .int .i64 t361]), (14, .pointer (some ⟨s_.2.2.2.2.2.2, 0, none⟩)), (79, .tuple #[.agg #[s_.2.2.2.1, s_.2.2.2.2.1, s_.2.2.2.2.2.1, .int .i64 t359, .int .i64 t360], .int .i64 t361]), (85, .agg #[s_.2.2.2.1, s_.2.2.2.2.1, s_.2.2.2.2.2.1, .int .i64 t359, .int .i64 t360]), (86, .int .i64 t361)]) (fun s_ w' => (w'.cell? ⟨gb258, 0, none⟩ = some (.slice A0_0 l0_0.length c0_0) ∧ w'.cell? ⟨gb258, 1, none⟩ = some (.slice A0_1 l0_1.length c0_1) ∧ w'.cell? ⟨gb258, 2, none⟩ = some (.slice A0_2 l0_2.length c0_2) ∧ w'.cell? ⟨gb258, 3, none⟩ = some (.int .i64 a0_3) ∧ w'.cell? ⟨gb258, 4, none⟩ = some (.int .i64 a0_4) ∧ w'.cell? ⟨gb259, 0, none⟩ = some (.int .i64 a1_0) ∧ w'.cell? ⟨gb259, 1, none⟩ = some (.int .i64 a1_1)) ∧ (Kd.R k93 93 w' w.heap.size (fun k_ => some k_ ≠ (s_.2.2.2.1 : Value).ownBlock ∧ some k_ ≠ (.slice Ao27 t274.length co27 : Value).ownBlock ∧ some k_ ≠ (.slice Ao40 t328.length co40 : Value).ownBlock ∧ some k_ ≠ (.slice Ao53 t333.length co53 : Value).ownBlock) s_.1 t337) ∧ (Kd.R (Kd.int .i64) 3 w' w.heap.size (fun k_ => some k_ ≠ (s_.2.2.1 : Value).ownBlock ∧ some k_ ≠ (s_.2.2.2.2.1 : Value).ownBlock ∧ some k_ ≠ (s_.2.2.2.2.2.1 : Value).ownBlock ∧ some k_ ≠ (.slice Ao29 t277.length co29 : Value).ownBlock ∧ some k_ ≠ (.slice Ao31 t280.length co31 : Value).ownBlock ∧ some k_ ≠ (.slice Ao45 t329.length co45 : Value).ownBlock ∧ some k_ ≠ (.slice Ao46 t330.length co46 : Value).ownBlock ∧ some k_ ≠ (.slice Ao55 t334.length co55 : Value).ownBlock ∧ some k_ ≠ (.slice Ao57 t335.length co57 : Value).ownBlock) s_.2.1 t340) ∧ (Kd.R (Kd.int .i64) 3 w' w.heap.size (fun k_ => some k_ ≠ (s_.2.1 : Value).ownBlock ∧ some k_ ≠ (s_.2.2.2.2.1 : Value).ownBlock ∧ some k_ ≠ (s_.2.2.2.2.2.1 : Value).ownBlock ∧ some k_ ≠ (.slice Ao29 t277.length co29 : Value).ownBlock ∧ some k_ ≠ (.slice Ao31 t280.length co31 : Value).ownBlock ∧ some k_ ≠ (.slice Ao45 t329.length co45 : Value).ownBlock ∧ some k_ ≠ (.slice Ao46 t330.length co46 : Value).ownBlock ∧ some k_ ≠ (.slice Ao55 t334.length co55 : Value).ownBlock ∧ some k_ ≠ (.slice Ao57 t335.length co57 : Value).ownBlock) s_.2.2.1 t343) ∧ (Kd.R k93 93 w' w.heap.size (fun k_ => some k_ ≠ (s_.1 : Value).ownBlock ∧ some k_ ≠ (.slice Ao27 t274.length co27 : Value).ownBlock ∧ some k_ ≠ (.slice Ao40 t328.length co40 : Value).ownBlock ∧ some k_ ≠ (.slice Ao53 t333.length co53 : Value).ownBlock) s_.2.2.2.1 t350) ∧ (Kd.R (Kd.int .i64) 3 w' w.heap.size (fun k_ => some k_ ≠ (s_.2.1 : Value).ownBlock ∧ some k_ ≠ (s_.2.2.1 : Value).ownBlock ∧ some k_ ≠ (s_.2.2.2.2.2.1 : Value).ownBlock ∧ some k_ ≠ (.slice Ao29 t277.length co29 : Value).ownBlock ∧ some k_ ≠ (.slice Ao31 t280.length co31 : Value).ownBlock ∧ some k_ ≠ (.slice Ao45 t329.length co45 : Value).ownBlock ∧ some k_ ≠ (.slice Ao46 t330.length co46 : Value).ownBlock ∧ some k_ ≠ (.slice Ao55 t334.length co55 : Value).ownBlock ∧ some k_ ≠ (.slice Ao57 t335.length co57 : Value).ownBlock) s_.2.2.2.2.1 t353) ∧ (Kd.R (Kd.int .i64) 3 w' w.heap.size (fun k_ => some k_ ≠ (s_.2.1 : Value).ownBlock ∧ some k_ ≠ (s_.2.2.1 : Value).ownBlock ∧ some k_ ≠ (s_.2.2.2.2.1 : Value).ownBlock ∧ some k_ ≠ (.slice Ao29 t277.length co29 : Value).ownBlock ∧ some k_ ≠ (.slice Ao31 t280.length co31 : Value).ownBlock ∧ some k_ ≠ (.slice Ao45 t329.length co45 : Value).ownBlock ∧ some k_ ≠ (.slice Ao46 t330.length co46 : Value).ownBlock ∧ some k_ ≠ (.slice Ao55 t334.length co55 : Value).ownBlock ∧ some k_ ≠ (.slice Ao57 t335.length co57 : Value).ownBlock) s_.2.2.2.2.2.1 t356) ∧ (Kd.R k93 93 w' w.heap.size (fun k_ => some k_ ≠ (s_.1 : Value).ownBlock ∧ some k_ ≠ (s_.2.2.2.1 : Value).ownBlock ∧ some k_ ≠ (.slice Ao40 t328.length co40 : Value).ownBlock ∧ some k_ ≠ (.slice Ao53 t333.length co53 : Value).ownBlock) (.slice Ao27 t274.length co27) t274) ∧ (Kd.R (Kd.int .i64) 3 w' w.heap.size (fun k_ => some k_ ≠ (s_.2.1 : Value).ownBlock ∧ some k_ ≠ (s_.2.2.1 : Value).ownBlock ∧ some k_ ≠ (s_.2.2.2.2.1 : Value).ownBlock ∧ some k_ ≠ (s_.2.2.2.2.2.1 : Value).ownBlock ∧ some k_ ≠ (.slice Ao31 t280.length co31 : Value).ownBlock ∧ some k_ ≠ (.slice Ao45 t329.length co45 : Value).ownBlock ∧ some k_ ≠ (.slice Ao46 t330.length co46 : Value).ownBlock ∧ some k_ ≠ (.slice Ao55 t334.length co55 : Value).ownBlock ∧ some k_ ≠ (.slice Ao57 t335.length co57 : Value).ownBlock) (.slice Ao29 t277.length co29) t277) ∧ (Kd.R (Kd.int .i64) 3 w' w.heap.size (fun k_ => some k_ ≠ (s_.2.1 : Value).ownBlock ∧ some k_ ≠ (s_.2.2.1 : Value).ownBlock ∧ some k_ ≠ (s_.2.2.2.2.1 : Value).ownBlock ∧ some k_ ≠ (s_.2.2.2.2.2.1 : Value).ownBlock ∧ some k_ ≠ (.slice Ao29 t277.length co29 : Value).ownBlock ∧ some k_ ≠ (.slice Ao45 t329.length co45 : Value).ownBlock ∧ some k_ ≠ (.slice Ao46 t330.length co46 : Value).ownBlock ∧ some k_ ≠ (.slice Ao55 t334.length co55 : Value).ownBlock ∧ some k_ ≠ (.slice Ao57 t335.length co57 : Value).ownBlock) (.slice Ao31 t280.length co31) t280) ∧ (Kd.R k93 93 w' w.heap.size (fun k_ => some k_ ≠ (s_.1 : Value).ownBlock ∧ some k_ ≠ (s_.2.2.2.1 : Value).ownBlock ∧ some k_ ≠ (.slice Ao27 t274.length co27 : Value).ownBlock ∧ some k_ ≠ (.slice Ao53 t333.length co53 : Value).ownBlock) (.slice Ao40 t328.length co40) t328) ∧ (Kd.R (Kd.int .i64) 3 w' w.heap.size (fun k_ => some k_ ≠ (s_.2.1 : Value).ownBlock ∧ some k_ ≠ (s_.2.2.1 : Value).ownBlock ∧ some k_ ≠ (s_.2.2.2.2.1 : Value).ownBlock ∧ some k_ ≠ (s_.2.2.2.2.2.1 : Value).ownBlock ∧ some k_ ≠ (.slice Ao29 t277.length co29 : Value).ownBlock ∧ some k_ ≠ (.slice Ao31 t280.length co31 : Value).ownBlock ∧ some k_ ≠ (.slice Ao46 t330.length co46 : Value).ownBlock ∧ some k_ ≠ (.slice Ao55 t334.length co55 : Value).ownBlock ∧ some k_ ≠ (.slice Ao57 t335.length co57 : Value).ownBlock) (.slice Ao45 t329.length co45) t329) ∧ (Kd.R (Kd.int .i64) 3 w' w.heap.size (fun k_ => some k_ ≠ (s_.2.1 : Value).ownBlock ∧ some k_ ≠ (s_.2.2.1 : Value).ownBlock ∧ some k_ ≠ (s_.2.2.2.2.1 : Value).ownBlock ∧ some k_ ≠ (s_.2.2.2.2.2.1 : Value).ownBlock ∧ some k_ ≠ (.slice Ao29 t277.length co29 : Value).ownBlock ∧ some k_ ≠ (.slice Ao31 t280.length co31 : Value).ownBlock ∧ some k_ ≠ (.slice Ao45 t329.length co45 : Value).ownBlock ∧ some k_ ≠ (.slice Ao55 t334.length co55 : Value).ownBlock ∧ some k_ ≠ (.slice Ao57 t335.length co57 : Value).ownBlock) (.slice Ao46 t330.length co46) t330) ∧ (Kd.R k93 93 w' w.heap.size (fun k_ => some k_ ≠ (s_.1 : Value).ownBlock ∧ some k_ ≠ (s_.2.2.2.1 : Value).ownBlock ∧ some k_ ≠ (.slice Ao27 t274.length co27 : Value).ownBlock ∧ some k_ ≠ (.slice Ao40 t328.length co40 : Value).ownBlock) (.slice Ao53 t333.length co53) t333) ∧ (Kd.R (Kd.int .i64) 3 w' w.heap.size (fun k_ => some k_ ≠ (s_.2.1 : Value).ownBlock ∧ some k_ ≠ (s_.2.2.1 : Value).ownBlock ∧ some k_ ≠ (s_.2.2.2.2.1 : Value).ownBlock ∧ some k_ ≠ (s_.2.2.2.2.2.1 : Value).ownBlock ∧ some k_ ≠ (.slice Ao29 t277.length co29 : Value).ownBlock ∧ some k_ ≠ (.slice Ao31 t280.length co31 : Value).ownBlock ∧ some k_ ≠ (.slice Ao45 t329.length co45 : Value).ownBlock ∧ some k_ ≠ (.slice Ao46 t330.length co46 : Value).ownBlock ∧ some k_ ≠ (.slice Ao57 t335.length co57 : Value).ownBlock) (.slice Ao55 t334.length co55) t334) ∧ (Kd.R (Kd.int .i64) 3 w' w.heap.size (fun k_ => some k_ ≠ (s_.2.1 : Value).ownBlock ∧ some k_ ≠ (s_.2.2.1 : Value).ownBlock ∧ some k_ ≠ (s_.2.2.2.2.1 : Value).ownBlock ∧ some k_ ≠ (s_.2.2.2.2.2.1 : Value).ownBlock ∧ some k_ ≠ (.slice Ao29 t277.length co29 : Value).ownBlock ∧ some k_ ≠ (.slice Ao31 t280.length co31 : Value).ownBlock ∧ some k_ ≠ (.slice Ao45 t329.length co45 : Value).ownBlock ∧ some k_ ≠ (.slice Ao46 t330.length co46 : Value).ownBlock ∧ some k_ ≠ (.slice Ao55 t334.length co55 : Value).ownBlock) (.slice Ao57 t335.length co57) t335) ∧ (w'.heap[gb258]? = some (.cells #[.slice A0_0 l0_0.length c0_0, .slice A0_1 l0_1.length c0_1, .slice A0_2 l0_2.length c0_2, .int .i64 a0_3, .int .i64 a0_4] 47 (0, 0))) ∧ (w'.heap[gb259]? = some (.cells #[.int .i64 a1_0, .int .i64 a1_1] 48 (0, 0))) ∧ (w'.heap[gb286]? = some (.cells #[.slice Ao27 t274.length co27, .slice Ao29 t277.length co29, .slice Ao31 t280.length co31, .int .i64 t283, .int .i64 t284] 34 (0, 0))) ∧ (w'.heap[gb298]? = some (.cells #[.slice Ao40 t328.length co40, .slice Ao45 t329.length co45, .slice Ao46 t330.length co46, .int .i64 t296, .int .i64 t297] 34 (0, 0))) ∧ (w'.heap[gb313]? = some (.cells #[.slice Ao53 t333.length co53, .slice Ao55 t334.length co55, .slice Ao57 t335.length co57, .int .i64 t310, .int .i64 t311] 34 (0, 0))) ∧ (w'.heap[s_.2.2.2.2.2.2]? = some (.cells #[.slice none 0 0, .slice none 0 0, .slice none 0 0, .int .i64 0, .int .i64 0] 34 (0, 0))) ∧ (w.heap.size ≤ s_.2.2.2.2.2.2) ∧ (w.heap.size ≤ s_.2.2.2.2.2.2) ∧ (gb258 ≠ s_.2.2.2.2.2.2) ∧ (s_.2.2.2.2.2.2 ≠ gb258) ∧ (gb259 ≠ s_.2.2.2.2.2.2) ∧ (s_.2.2.2.2.2.2 ≠ gb259) ∧ (gb286 ≠ s_.2.2.2.2.2.2) ∧ (s_.2.2.2.2.2.2 ≠ gb286) ∧ (gb298 ≠ s_.2.2.2.2.2.2) ∧ (s_.2.2.2.2.2.2 ≠ gb298) ∧ (gb313 ≠ s_.2.2.2.2.2.2) ∧ (s_.2.2.2.2.2.2 ≠ gb313) ∧ (Below w.heap.size w w')) ?_ ?_
    rotate_left
    ·
     intro hCont
     refine two_ (i := 1) (j := 8) (Ni := some 81) (Nj := some 14) #[true, true, true, false, false, false, false, false, false, false, false] #[true, false, true, false, false, false, false, false, true, false, false] rfl rfl rfl rfl (two_of HT_.out (by kernel_rfl)) (by decide) (by decide) (fun K hK => ?_) (fun K hK => ?_)
     ·
      skip
      refine goes_ Try.func25 (by kernel_rfl) rfl #[.agg #[.slice A0_0 l0_0.length c0_0, .slice A0_1 l0_1.length c0_1, .slice A0_2 l0_2.length c0_2, .int .i64 a0_3, .int .i64 a0_4]] (by rfl) rfl rfl (by (try simp only [lm]); first | done | rfl | (simp only [List.length_drop, List.length_take]; rfl)) ?_
      with_reducible refine (laws_toMemory.calls kj139 _ _ l0_0 _ _ l0_1 _ _ l0_2 a0_3 a0_4 t337 t340 t343 t346 t347 _ ?side1 ?side2 ?side3 ?side4 ?side5 ?side6 A142.out).mono ?_
      (case side1 => exact Kd.C_below HR0_0.out (be w))
      (case side2 => exact HC0_0.out)
      (case side3 => exact Kd.C_below HR0_1.out (be w))
      (case side4 => exact HC0_1.out)
      (case side5 => exact Kd.C_below HR0_2.out (be w))
      (case side6 => exact HC0_2.out)
      rintro e w147 ⟨v338, v341, v344, rfl, ho0, ho1, ho2, hb⟩
      refine ⟨_, rfl, ?_⟩
      have HO339 := As.mk (Kd.R_lower (Kd.R_new' (Kd.R_new' (Kd.R_new' ho0 (Kd.R_lt (by (with_reducible repeat (first | apply Kd.R_alloc | apply Kd.R_drewN | apply Kd.R_drew)); exact HO_287000.out))) (Kd.R_lt (by (with_reducible repeat (first | apply Kd.R_alloc | apply Kd.R_drewN | apply Kd.R_drew)); exact HO_299000.out))) (Kd.R_lt (by (with_reducible repeat (first | apply Kd.R_alloc | apply Kd.R_drewN | apply Kd.R_drew)); exact HO_314000.out))) (below_size (be w)))
      replace HO_287000 := As.mk (Kd.R_elder' (by (with_reducible repeat (first | apply Kd.R_alloc | apply Kd.R_drewN | apply Kd.R_drew)); exact HO_287000.out) (Kd.R_base ho0) hb)
      replace HO_299000 := As.mk (Kd.R_elder' (by (with_reducible repeat (first | apply Kd.R_alloc | apply Kd.R_drewN | apply Kd.R_drew)); exact HO_299000.out) (Kd.R_base ho0) hb)
      replace HO_314000 := As.mk (Kd.R_elder' (by (with_reducible repeat (first | apply Kd.R_alloc | apply Kd.R_drewN | apply Kd.R_drew)); exact HO_314000.out) (Kd.R_base ho0) hb)
      have HO342 := As.mk (Kd.R_lower (Kd.R_new' (Kd.R_new' (Kd.R_new' (Kd.R_new' (Kd.R_new' (Kd.R_new' ho1 (Kd.R_lt (by (with_reducible repeat (first | apply Kd.R_alloc | apply Kd.R_drewN | apply Kd.R_drew)); exact HO_287001.out))) (Kd.R_lt (by (with_reducible repeat (first | apply Kd.R_alloc | apply Kd.R_drewN | apply Kd.R_drew)); exact HO_287002.out))) (Kd.R_lt (by (with_reducible repeat (first | apply Kd.R_alloc | apply Kd.R_drewN | apply Kd.R_drew)); exact HO_299001.out))) (Kd.R_lt (by (with_reducible repeat (first | apply Kd.R_alloc | apply Kd.R_drewN | apply Kd.R_drew)); exact HO_299002.out))) (Kd.R_lt (by (with_reducible repeat (first | apply Kd.R_alloc | apply Kd.R_drewN | apply Kd.R_drew)); exact HO_314001.out))) (Kd.R_lt (by (with_reducible repeat (first | apply Kd.R_alloc | apply Kd.R_drewN | apply Kd.R_drew)); exact HO_314002.out))) (below_size (be w)))
      have HO345 := As.mk (Kd.R_lower (Kd.R_new' (Kd.R_new' (Kd.R_new' (Kd.R_new' (Kd.R_new' (Kd.R_new' ho2 (Kd.R_lt (by (with_reducible repeat (first | apply Kd.R_alloc | apply Kd.R_drewN | apply Kd.R_drew)); exact HO_287001.out))) (Kd.R_lt (by (with_reducible repeat (first | apply Kd.R_alloc | apply Kd.R_drewN | apply Kd.R_drew)); exact HO_287002.out))) (Kd.R_lt (by (with_reducible repeat (first | apply Kd.R_alloc | apply Kd.R_drewN | apply Kd.R_drew)); exact HO_299001.out))) (Kd.R_lt (by (with_reducible repeat (first | apply Kd.R_alloc | apply Kd.R_drewN | apply Kd.R_drew)); exact HO_299002.out))) (Kd.R_lt (by (with_reducible repeat (first | apply Kd.R_alloc | apply Kd.R_drewN | apply Kd.R_drew)); exact HO_314001.out))) (Kd.R_lt (by (with_reducible repeat (first | apply Kd.R_alloc | apply Kd.R_drewN | apply Kd.R_drew)); exact HO_314002.out))) (below_size (be w)))
      replace HO_287001 := As.mk (Kd.R_mono (Kd.R_told (Kd.R_told (Kd.R_old (by (with_reducible repeat (first | apply Kd.R_alloc | apply Kd.R_drewN | apply Kd.R_drew)); exact HO_287001.out) hb) (Kd.R_base ho1)) (Kd.R_base ho2)) (fun _ h_ => h_.1))
      replace HO_287002 := As.mk (Kd.R_mono (Kd.R_told (Kd.R_told (Kd.R_old (by (with_reducible repeat (first | apply Kd.R_alloc | apply Kd.R_drewN | apply Kd.R_drew)); exact HO_287002.out) hb) (Kd.R_base ho1)) (Kd.R_base ho2)) (fun _ h_ => h_.1))
      replace HO_299001 := As.mk (Kd.R_mono (Kd.R_told (Kd.R_told (Kd.R_old (by (with_reducible repeat (first | apply Kd.R_alloc | apply Kd.R_drewN | apply Kd.R_drew)); exact HO_299001.out) hb) (Kd.R_base ho1)) (Kd.R_base ho2)) (fun _ h_ => h_.1))
      replace HO_299002 := As.mk (Kd.R_mono (Kd.R_told (Kd.R_told (Kd.R_old (by (with_reducible repeat (first | apply Kd.R_alloc | apply Kd.R_drewN | apply Kd.R_drew)); exact HO_299002.out) hb) (Kd.R_base ho1)) (Kd.R_base ho2)) (fun _ h_ => h_.1))
      replace HO_314001 := As.mk (Kd.R_mono (Kd.R_told (Kd.R_told (Kd.R_old (by (with_reducible repeat (first | apply Kd.R_alloc | apply Kd.R_drewN | apply Kd.R_drew)); exact HO_314001.out) hb) (Kd.R_base ho1)) (Kd.R_base ho2)) (fun _ h_ => h_.1))
      replace HO_314002 := As.mk (Kd.R_mono (Kd.R_told (Kd.R_told (Kd.R_old (by (with_reducible repeat (first | apply Kd.R_alloc | apply Kd.R_drewN | apply Kd.R_drew)); exact HO_314002.out) hb) (Kd.R_base ho1)) (Kd.R_base ho2)) (fun _ h_ => h_.1))
      replace BK258 := As.mk (blk_below (bx BK258.out) hb)
      replace BK259 := As.mk (blk_below (bx BK259.out) hb)
      replace BK286 := As.mk (blk_below (bx BK286.out) hb)
      replace BK298 := As.mk (blk_below (bx BK298.out) hb)
      replace BK313 := As.mk (blk_below (bx BK313.out) hb)
      replace HB := As.mk (below_step (be w) hb)
      (try clear hb)
      (try clear hb2)
      (try clear hk)
      (try clear hi)
      (try clear ho0)
      (try clear ho1)
      (try clear ho2)
      refine hK.out _ _ ⟨(blk_cell BK258.out 0).trans rfl, (blk_cell BK258.out 1).trans rfl, (blk_cell BK258.out 2).trans rfl, (blk_cell BK258.out 3).trans rfl, (blk_cell BK258.out 4).trans rfl, (blk_cell BK259.out 0).trans rfl, (blk_cell BK259.out 1).trans rfl⟩ (fun hHeld => ?_)
      clear hK K
      refine norm_ (a' := ?_) ?_ ?_
      rotate_left
      ·
       show Act.put _ (some 81) _ = _
       simp only [pk, i64_w, i32_w]
       rfl
      refine two_ (i := 3) (j := 8) (Ni := some 83) (Nj := some 14) #[true, true, true, true, false, false, false, false, false, false, false] #[true, true, true, false, false, false, false, false, true, false, false] rfl rfl rfl rfl (two_of HT_.out (by kernel_rfl)) (by decide) (by decide) (fun K hK => ?_) (fun K hK => ?_)
      ·
       skip
       refine goes_ Try.func26 (by kernel_rfl) rfl #[.agg #[.int .i64 a1_0, .int .i64 a1_1]] (by rfl) rfl rfl (by (try simp only [lm]); first | done | rfl | (simp only [List.length_drop, List.length_take]; rfl)) ?_
       with_reducible refine (laws_toValue.calls a1_0 a1_1 t348 t349 _ A143.out).mono ?_
       rintro e w148 ⟨rfl, hb⟩
       refine ⟨_, rfl, ?_⟩
       replace HO_287000 := As.mk (Kd.R_below (by (with_reducible repeat (first | apply Kd.R_alloc | apply Kd.R_drewN | apply Kd.R_drew)); exact HO_287000.out) hb)
       replace HO_287001 := As.mk (Kd.R_below (by (with_reducible repeat (first | apply Kd.R_alloc | apply Kd.R_drewN | apply Kd.R_drew)); exact HO_287001.out) hb)
       replace HO_287002 := As.mk (Kd.R_below (by (with_reducible repeat (first | apply Kd.R_alloc | apply Kd.R_drewN | apply Kd.R_drew)); exact HO_287002.out) hb)
       replace HO_299000 := As.mk (Kd.R_below (by (with_reducible repeat (first | apply Kd.R_alloc | apply Kd.R_drewN | apply Kd.R_drew)); exact HO_299000.out) hb)
       replace HO_299001 := As.mk (Kd.R_below (by (with_reducible repeat (first | apply Kd.R_alloc | apply Kd.R_drewN | apply Kd.R_drew)); exact HO_299001.out) hb)
       replace HO_299002 := As.mk (Kd.R_below (by (with_reducible repeat (first | apply Kd.R_alloc | apply Kd.R_drewN | apply Kd.R_drew)); exact HO_299002.out) hb)
       replace HO_314000 := As.mk (Kd.R_below (by (with_reducible repeat (first | apply Kd.R_alloc | apply Kd.R_drewN | apply Kd.R_drew)); exact HO_314000.out) hb)
       replace HO_314001 := As.mk (Kd.R_below (by (with_reducible repeat (first | apply Kd.R_alloc | apply Kd.R_drewN | apply Kd.R_drew)); exact HO_314001.out) hb)
       replace HO_314002 := As.mk (Kd.R_below (by (with_reducible repeat (first | apply Kd.R_alloc | apply Kd.R_drewN | apply Kd.R_drew)); exact HO_314002.out) hb)
       replace HO339 := As.mk (Kd.R_below (by (with_reducible repeat (first | apply Kd.R_alloc | apply Kd.R_drewN | apply Kd.R_drew)); exact HO339.out) hb)
       replace HO342 := As.mk (Kd.R_below (by (with_reducible repeat (first | apply Kd.R_alloc | apply Kd.R_drewN | apply Kd.R_drew)); exact HO342.out) hb)
       replace HO345 := As.mk (Kd.R_below (by (with_reducible repeat (first | apply Kd.R_alloc | apply Kd.R_drewN | apply Kd.R_drew)); exact HO345.out) hb)
       replace BK258 := As.mk (blk_below (bx BK258.out) hb)
       replace BK259 := As.mk (blk_below (bx BK259.out) hb)
       replace BK286 := As.mk (blk_below (bx BK286.out) hb)
       replace BK298 := As.mk (blk_below (bx BK298.out) hb)
       replace BK313 := As.mk (blk_below (bx BK313.out) hb)
       replace HB := As.mk (below_step (be w) hb)
       (try clear hb)
       (try clear hb2)
       (try clear hk)
       (try clear hi)
       obtain ⟨Ao149, co149, eo149⟩ := Kd.R_slice HO339.out
       (first | subst eo149 | (injection eo149 with f1_ f2_ f3_; have f4_ := f1_.symm; have f5_ := f3_.symm; clear f1_ f2_ f3_; subst f4_; subst f5_))
       obtain ⟨Ao150, co150, eo150⟩ := Kd.R_slice HO342.out
       (first | subst eo150 | (injection eo150 with f1_ f2_ f3_; have f4_ := f1_.symm; have f5_ := f3_.symm; clear f1_ f2_ f3_; subst f4_; subst f5_))
       obtain ⟨Ao151, co151, eo151⟩ := Kd.R_slice HO345.out
       (first | subst eo151 | (injection eo151 with f1_ f2_ f3_; have f4_ := f1_.symm; have f5_ := f3_.symm; clear f1_ f2_ f3_; subst f4_; subst f5_))
       refine hK.out _ _ ⟨(blk_cell BK258.out 0).trans rfl, (blk_cell BK258.out 1).trans rfl, (blk_cell BK258.out 2).trans rfl, (blk_cell BK258.out 3).trans rfl, (blk_cell BK258.out 4).trans rfl, (blk_cell BK259.out 0).trans rfl, (blk_cell BK259.out 1).trans rfl⟩ (fun hHeld => ?_)
       clear hK K
       refine norm_ (a' := ?_) ?_ ?_
       rotate_left
       ·
        show Act.put _ (some 83) _ = _
        simp only [pk, i64_w, i32_w]
        rfl
       refine two_ (i := 4) (j := 8) (Ni := some 84) (Nj := some 14) #[true, true, true, true, true, false, false, false, false, false, false] #[true, true, true, true, false, false, false, false, true, false, false] rfl rfl rfl rfl (two_of HT_.out (by kernel_rfl)) (by decide) (by decide) (fun K hK => ?_) (fun K hK => ?_)
       ·
        skip
        refine goes_ Try.func19 (by kernel_rfl) rfl #[.agg #[.slice Ao149 t337.length co149, .slice Ao150 t340.length co150, .slice Ao151 t343.length co151, .int .i64 t346, .int .i64 t347], .agg #[.int .i64 t348, .int .i64 t349]] (by rfl) rfl rfl (by (try simp only [lm]); first | done | rfl | (simp only [List.length_drop, List.length_take]; rfl)) ?_
        with_reducible refine (impl_Looked.calls _ _ t337 _ _ t340 _ _ t343 t346 t347 t348 t349 t350 t353 t356 t359 t360 t361 _ ?side1 ?side2 ?side3 ?side4 ?side5 ?side6 A144.out).mono ?_
        (case side1 => repeat (first | exact (Kd.R_reads' HO339.out).2.2 | (with_reducible refine Kd.C_alloc ?_ _) | (with_reducible refine Kd.C_drewN ?_ _) | (with_reducible refine Kd.C_drew ?_)))
        (case side2 => exact (Kd.R_reads' HO339.out).2.1)
        (case side3 => repeat (first | exact (Kd.R_reads' HO342.out).2.2 | (with_reducible refine Kd.C_alloc ?_ _) | (with_reducible refine Kd.C_drewN ?_ _) | (with_reducible refine Kd.C_drew ?_)))
        (case side4 => exact (Kd.R_reads' HO342.out).2.1)
        (case side5 => repeat (first | exact (Kd.R_reads' HO345.out).2.2 | (with_reducible refine Kd.C_alloc ?_ _) | (with_reducible refine Kd.C_drewN ?_ _) | (with_reducible refine Kd.C_drew ?_)))
        (case side6 => exact (Kd.R_reads' HO345.out).2.1)
        rintro e w152 ⟨v351, v354, v357, rfl, ho0, ho1, ho2, hb⟩
        refine ⟨_, rfl, ?_⟩
        have HO352 := As.mk (Kd.R_lower (Kd.R_new' (Kd.R_new' (Kd.R_new' (Kd.R_new' ho0 (Kd.R_lt (by (with_reducible repeat (first | apply Kd.R_alloc | apply Kd.R_drewN | apply Kd.R_drew)); exact HO_287000.out))) (Kd.R_lt (by (with_reducible repeat (first | apply Kd.R_alloc | apply Kd.R_drewN | apply Kd.R_drew)); exact HO_299000.out))) (Kd.R_lt (by (with_reducible repeat (first | apply Kd.R_alloc | apply Kd.R_drewN | apply Kd.R_drew)); exact HO_314000.out))) (Kd.R_lt (by (with_reducible repeat (first | apply Kd.R_alloc | apply Kd.R_drewN | apply Kd.R_drew)); exact HO339.out))) (below_size (be w)))
        replace HO_287000 := As.mk (Kd.R_elder' (by (with_reducible repeat (first | apply Kd.R_alloc | apply Kd.R_drewN | apply Kd.R_drew)); exact HO_287000.out) (Kd.R_base ho0) hb)
        replace HO_299000 := As.mk (Kd.R_elder' (by (with_reducible repeat (first | apply Kd.R_alloc | apply Kd.R_drewN | apply Kd.R_drew)); exact HO_299000.out) (Kd.R_base ho0) hb)
        replace HO_314000 := As.mk (Kd.R_elder' (by (with_reducible repeat (first | apply Kd.R_alloc | apply Kd.R_drewN | apply Kd.R_drew)); exact HO_314000.out) (Kd.R_base ho0) hb)
        replace HO339 := As.mk (Kd.R_elder' (by (with_reducible repeat (first | apply Kd.R_alloc | apply Kd.R_drewN | apply Kd.R_drew)); exact HO339.out) (Kd.R_base ho0) hb)
        have HO355 := As.mk (Kd.R_lower (Kd.R_new' (Kd.R_new' (Kd.R_new' (Kd.R_new' (Kd.R_new' (Kd.R_new' (Kd.R_new' (Kd.R_new' ho1 (Kd.R_lt (by (with_reducible repeat (first | apply Kd.R_alloc | apply Kd.R_drewN | apply Kd.R_drew)); exact HO_287001.out))) (Kd.R_lt (by (with_reducible repeat (first | apply Kd.R_alloc | apply Kd.R_drewN | apply Kd.R_drew)); exact HO_287002.out))) (Kd.R_lt (by (with_reducible repeat (first | apply Kd.R_alloc | apply Kd.R_drewN | apply Kd.R_drew)); exact HO_299001.out))) (Kd.R_lt (by (with_reducible repeat (first | apply Kd.R_alloc | apply Kd.R_drewN | apply Kd.R_drew)); exact HO_299002.out))) (Kd.R_lt (by (with_reducible repeat (first | apply Kd.R_alloc | apply Kd.R_drewN | apply Kd.R_drew)); exact HO_314001.out))) (Kd.R_lt (by (with_reducible repeat (first | apply Kd.R_alloc | apply Kd.R_drewN | apply Kd.R_drew)); exact HO_314002.out))) (Kd.R_lt (by (with_reducible repeat (first | apply Kd.R_alloc | apply Kd.R_drewN | apply Kd.R_drew)); exact HO342.out))) (Kd.R_lt (by (with_reducible repeat (first | apply Kd.R_alloc | apply Kd.R_drewN | apply Kd.R_drew)); exact HO345.out))) (below_size (be w)))
        have HO358 := As.mk (Kd.R_lower (Kd.R_new' (Kd.R_new' (Kd.R_new' (Kd.R_new' (Kd.R_new' (Kd.R_new' (Kd.R_new' (Kd.R_new' ho2 (Kd.R_lt (by (with_reducible repeat (first | apply Kd.R_alloc | apply Kd.R_drewN | apply Kd.R_drew)); exact HO_287001.out))) (Kd.R_lt (by (with_reducible repeat (first | apply Kd.R_alloc | apply Kd.R_drewN | apply Kd.R_drew)); exact HO_287002.out))) (Kd.R_lt (by (with_reducible repeat (first | apply Kd.R_alloc | apply Kd.R_drewN | apply Kd.R_drew)); exact HO_299001.out))) (Kd.R_lt (by (with_reducible repeat (first | apply Kd.R_alloc | apply Kd.R_drewN | apply Kd.R_drew)); exact HO_299002.out))) (Kd.R_lt (by (with_reducible repeat (first | apply Kd.R_alloc | apply Kd.R_drewN | apply Kd.R_drew)); exact HO_314001.out))) (Kd.R_lt (by (with_reducible repeat (first | apply Kd.R_alloc | apply Kd.R_drewN | apply Kd.R_drew)); exact HO_314002.out))) (Kd.R_lt (by (with_reducible repeat (first | apply Kd.R_alloc | apply Kd.R_drewN | apply Kd.R_drew)); exact HO342.out))) (Kd.R_lt (by (with_reducible repeat (first | apply Kd.R_alloc | apply Kd.R_drewN | apply Kd.R_drew)); exact HO345.out))) (below_size (be w)))
        replace HO_287001 := As.mk (Kd.R_mono (Kd.R_told (Kd.R_told (Kd.R_old (by (with_reducible repeat (first | apply Kd.R_alloc | apply Kd.R_drewN | apply Kd.R_drew)); exact HO_287001.out) hb) (Kd.R_base ho1)) (Kd.R_base ho2)) (fun _ h_ => h_.1))
        replace HO_287002 := As.mk (Kd.R_mono (Kd.R_told (Kd.R_told (Kd.R_old (by (with_reducible repeat (first | apply Kd.R_alloc | apply Kd.R_drewN | apply Kd.R_drew)); exact HO_287002.out) hb) (Kd.R_base ho1)) (Kd.R_base ho2)) (fun _ h_ => h_.1))
        replace HO_299001 := As.mk (Kd.R_mono (Kd.R_told (Kd.R_told (Kd.R_old (by (with_reducible repeat (first | apply Kd.R_alloc | apply Kd.R_drewN | apply Kd.R_drew)); exact HO_299001.out) hb) (Kd.R_base ho1)) (Kd.R_base ho2)) (fun _ h_ => h_.1))
        replace HO_299002 := As.mk (Kd.R_mono (Kd.R_told (Kd.R_told (Kd.R_old (by (with_reducible repeat (first | apply Kd.R_alloc | apply Kd.R_drewN | apply Kd.R_drew)); exact HO_299002.out) hb) (Kd.R_base ho1)) (Kd.R_base ho2)) (fun _ h_ => h_.1))
        replace HO_314001 := As.mk (Kd.R_mono (Kd.R_told (Kd.R_told (Kd.R_old (by (with_reducible repeat (first | apply Kd.R_alloc | apply Kd.R_drewN | apply Kd.R_drew)); exact HO_314001.out) hb) (Kd.R_base ho1)) (Kd.R_base ho2)) (fun _ h_ => h_.1))
        replace HO_314002 := As.mk (Kd.R_mono (Kd.R_told (Kd.R_told (Kd.R_old (by (with_reducible repeat (first | apply Kd.R_alloc | apply Kd.R_drewN | apply Kd.R_drew)); exact HO_314002.out) hb) (Kd.R_base ho1)) (Kd.R_base ho2)) (fun _ h_ => h_.1))
        replace HO342 := As.mk (Kd.R_mono (Kd.R_told (Kd.R_told (Kd.R_old (by (with_reducible repeat (first | apply Kd.R_alloc | apply Kd.R_drewN | apply Kd.R_drew)); exact HO342.out) hb) (Kd.R_base ho1)) (Kd.R_base ho2)) (fun _ h_ => h_.1))
        replace HO345 := As.mk (Kd.R_mono (Kd.R_told (Kd.R_told (Kd.R_old (by (with_reducible repeat (first | apply Kd.R_alloc | apply Kd.R_drewN | apply Kd.R_drew)); exact HO345.out) hb) (Kd.R_base ho1)) (Kd.R_base ho2)) (fun _ h_ => h_.1))
        replace BK258 := As.mk (blk_below (bx BK258.out) hb)
        replace BK259 := As.mk (blk_below (bx BK259.out) hb)
        replace BK286 := As.mk (blk_below (bx BK286.out) hb)
        replace BK298 := As.mk (blk_below (bx BK298.out) hb)
        replace BK313 := As.mk (blk_below (bx BK313.out) hb)
        replace HB := As.mk (below_step (be w) hb)
        (try clear hb)
        (try clear hb2)
        (try clear hk)
        (try clear hi)
        (try clear ho0)
        (try clear ho1)
        (try clear ho2)
        refine hK.out _ _ ⟨(blk_cell BK258.out 0).trans rfl, (blk_cell BK258.out 1).trans rfl, (blk_cell BK258.out 2).trans rfl, (blk_cell BK258.out 3).trans rfl, (blk_cell BK258.out 4).trans rfl, (blk_cell BK259.out 0).trans rfl, (blk_cell BK259.out 1).trans rfl⟩ (fun hHeld => ?_)
        clear hK K
        refine norm_ (a' := ?_) ?_ ?_
        rotate_left
        ·
         show Act.put _ (some 84) _ = _
         simp only [pk, i64_w, i32_w]
         rfl
        refine pure_ (i := 5) (N := some 79) (v := ?_) (a' := ?_) #[I, I, I, I, I, I, O, O, O, O, O] rfl rfl (any_of HT_.out (by kernel_rfl)) (fun _ _ _ h => h) (Or.inl ⟨by rfl, ?_⟩) ?_ ?_
        rotate_left
        ·
         intro w'
         go_simp
         with_reducible rfl
        rotate_left
        ·
         simp only [pk, i64_w, i32_w]
         rfl
        refine pure_ (i := 6) (N := some 85) (v := ?_) (a' := ?_) #[I, I, I, I, I, I, I, O, O, O, O] rfl rfl (any_of HT_.out (by kernel_rfl)) (fun _ _ _ h => h) (Or.inl ⟨by rfl, ?_⟩) ?_ ?_
        rotate_left
        ·
         intro w'
         go_simp
         with_reducible rfl
        rotate_left
        ·
         simp only [pk, i64_w, i32_w]
         rfl
        refine pure_ (i := 7) (N := some 86) (v := ?_) (a' := ?_) #[I, I, I, I, I, I, I, I, O, O, O] rfl rfl (any_of HT_.out (by kernel_rfl)) (fun _ _ _ h => h) (Or.inl ⟨by rfl, ?_⟩) ?_ ?_
        rotate_left
        ·
         intro w'
         go_simp
         with_reducible rfl
        rotate_left
        ·
         simp only [pk, i64_w, i32_w]
         rfl
        refine one_ (i := 8) (N := some 14) #[I, I, I, I, I, I, I, I, I, O, O] rfl rfl (one_of HT_.out (by kernel_rfl)) (by decide) (fun K hK => ?_)
        refine box_step ?hg (N := 14) ?hd (cs := #[.slice none 0 0, .slice none 0 0, .slice none 0 0, .int .i64 0, .int .i64 0]) (t := 34) ?hr ?_; (case hd => rfl); (case hg => rfl); (case hr => first | (go_simp; done) | (go_simp; rfl))
        intro gb362 hg w153 hbox hb
        replace HO_287000 := As.mk (Kd.R_below (by (with_reducible repeat (first | apply Kd.R_alloc | apply Kd.R_drewN | apply Kd.R_drew)); exact HO_287000.out) hb)
        replace HO_287001 := As.mk (Kd.R_below (by (with_reducible repeat (first | apply Kd.R_alloc | apply Kd.R_drewN | apply Kd.R_drew)); exact HO_287001.out) hb)
        replace HO_287002 := As.mk (Kd.R_below (by (with_reducible repeat (first | apply Kd.R_alloc | apply Kd.R_drewN | apply Kd.R_drew)); exact HO_287002.out) hb)
        replace HO_299000 := As.mk (Kd.R_below (by (with_reducible repeat (first | apply Kd.R_alloc | apply Kd.R_drewN | apply Kd.R_drew)); exact HO_299000.out) hb)
        replace HO_299001 := As.mk (Kd.R_below (by (with_reducible repeat (first | apply Kd.R_alloc | apply Kd.R_drewN | apply Kd.R_drew)); exact HO_299001.out) hb)
        replace HO_299002 := As.mk (Kd.R_below (by (with_reducible repeat (first | apply Kd.R_alloc | apply Kd.R_drewN | apply Kd.R_drew)); exact HO_299002.out) hb)
        replace HO_314000 := As.mk (Kd.R_below (by (with_reducible repeat (first | apply Kd.R_alloc | apply Kd.R_drewN | apply Kd.R_drew)); exact HO_314000.out) hb)
        replace HO_314001 := As.mk (Kd.R_below (by (with_reducible repeat (first | apply Kd.R_alloc | apply Kd.R_drewN | apply Kd.R_drew)); exact HO_314001.out) hb)
        replace HO_314002 := As.mk (Kd.R_below (by (with_reducible repeat (first | apply Kd.R_alloc | apply Kd.R_drewN | apply Kd.R_drew)); exact HO_314002.out) hb)
        replace HO339 := As.mk (Kd.R_below (by (with_reducible repeat (first | apply Kd.R_alloc | apply Kd.R_drewN | apply Kd.R_drew)); exact HO339.out) hb)
        replace HO342 := As.mk (Kd.R_below (by (with_reducible repeat (first | apply Kd.R_alloc | apply Kd.R_drewN | apply Kd.R_drew)); exact HO342.out) hb)
        replace HO345 := As.mk (Kd.R_below (by (with_reducible repeat (first | apply Kd.R_alloc | apply Kd.R_drewN | apply Kd.R_drew)); exact HO345.out) hb)
        replace HO352 := As.mk (Kd.R_below (by (with_reducible repeat (first | apply Kd.R_alloc | apply Kd.R_drewN | apply Kd.R_drew)); exact HO352.out) hb)
        replace HO355 := As.mk (Kd.R_below (by (with_reducible repeat (first | apply Kd.R_alloc | apply Kd.R_drewN | apply Kd.R_drew)); exact HO355.out) hb)
        replace HO358 := As.mk (Kd.R_below (by (with_reducible repeat (first | apply Kd.R_alloc | apply Kd.R_drewN | apply Kd.R_drew)); exact HO358.out) hb)
        have BK362 := As.mk (hbox)
        have GW362 := As.mk (gs w hg)
        have GE362 := As.mk (gs w hg)
        replace HB := As.mk (below_step (be w) hb)
        have NB258_362 := As.mk (nl hg (bx BK258.out))
        have NB362_258 := As.mk (ng hg (bx BK258.out))
        replace BK258 := As.mk (blk_below (bx BK258.out) hb)
        have NB259_362 := As.mk (nl hg (bx BK259.out))
        have NB362_259 := As.mk (ng hg (bx BK259.out))
        replace BK259 := As.mk (blk_below (bx BK259.out) hb)
        have NB286_362 := As.mk (nl hg (bx BK286.out))
        have NB362_286 := As.mk (ng hg (bx BK286.out))
        replace BK286 := As.mk (blk_below (bx BK286.out) hb)
        have NB298_362 := As.mk (nl hg (bx BK298.out))
        have NB362_298 := As.mk (ng hg (bx BK298.out))
        replace BK298 := As.mk (blk_below (bx BK298.out) hb)
        have NB313_362 := As.mk (nl hg (bx BK313.out))
        have NB362_313 := As.mk (ng hg (bx BK313.out))
        replace BK313 := As.mk (blk_below (bx BK313.out) hb)
        clear hb hbox hg
        refine hK.out _ _ ⟨(blk_cell BK258.out 0).trans rfl, (blk_cell BK258.out 1).trans rfl, (blk_cell BK258.out 2).trans rfl, (blk_cell BK258.out 3).trans rfl, (blk_cell BK258.out 4).trans rfl, (blk_cell BK259.out 0).trans rfl, (blk_cell BK259.out 1).trans rfl⟩ (fun hHeld => ?_)
        clear hK K
        refine norm_ (a' := ?_) ?_ ?_
        rotate_left
        ·
         show Act.put _ (some 14) _ = _
         simp only [pk, i64_w, i32_w]
         rfl
        exact norm_ (by simp only [putAll, Act.put, List.setIfInBounds_toArray, List.set_cons_zero, List.set_cons_succ]) (hCont (.slice Ao149 t337.length co149, .slice Ao150 t340.length co150, .slice Ao151 t343.length co151, v351, v354, v357, gb362) _ ⟨hHeld, (by (with_reducible repeat (first | apply Kd.R_alloc | apply Kd.R_drewN | apply Kd.R_drew)); exact Kd.R_mono HO339.out (fun _ hk => ⟨hk.2, ⟨hk.1.1.1.2, ⟨hk.1.1.2, hk.1.2⟩⟩⟩)), (by (with_reducible repeat (first | apply Kd.R_alloc | apply Kd.R_drewN | apply Kd.R_drew)); exact Kd.R_mono HO342.out (fun _ hk => ⟨hk.1.1.1.1.1.1.1.1, ⟨hk.1.2, ⟨hk.2, ⟨hk.1.1.1.1.1.1.1.2, ⟨hk.1.1.1.1.1.1.2, ⟨hk.1.1.1.1.1.2, ⟨hk.1.1.1.1.2, ⟨hk.1.1.1.2, hk.1.1.2⟩⟩⟩⟩⟩⟩⟩⟩)), (by (with_reducible repeat (first | apply Kd.R_alloc | apply Kd.R_drewN | apply Kd.R_drew)); exact Kd.R_mono HO345.out (fun _ hk => ⟨hk.1.1.1.1.1.1.1.1, ⟨hk.1.2, ⟨hk.2, ⟨hk.1.1.1.1.1.1.1.2, ⟨hk.1.1.1.1.1.1.2, ⟨hk.1.1.1.1.1.2, ⟨hk.1.1.1.1.2, ⟨hk.1.1.1.2, hk.1.1.2⟩⟩⟩⟩⟩⟩⟩⟩)), (by (with_reducible repeat (first | apply Kd.R_alloc | apply Kd.R_drewN | apply Kd.R_drew)); exact Kd.R_mono HO352.out (fun _ hk => ⟨hk.2, ⟨hk.1.1.1.2, ⟨hk.1.1.2, hk.1.2⟩⟩⟩)), (by (with_reducible repeat (first | apply Kd.R_alloc | apply Kd.R_drewN | apply Kd.R_drew)); exact Kd.R_mono HO355.out (fun _ hk => ⟨hk.1.2, ⟨hk.2, ⟨hk.1.1.1.1.1.1.1.1, ⟨hk.1.1.1.1.1.1.1.2, ⟨hk.1.1.1.1.1.1.2, ⟨hk.1.1.1.1.1.2, ⟨hk.1.1.1.1.2, ⟨hk.1.1.1.2, hk.1.1.2⟩⟩⟩⟩⟩⟩⟩⟩)), (by (with_reducible repeat (first | apply Kd.R_alloc | apply Kd.R_drewN | apply Kd.R_drew)); exact Kd.R_mono HO358.out (fun _ hk => ⟨hk.1.2, ⟨hk.2, ⟨hk.1.1.1.1.1.1.1.1, ⟨hk.1.1.1.1.1.1.1.2, ⟨hk.1.1.1.1.1.1.2, ⟨hk.1.1.1.1.1.2, ⟨hk.1.1.1.1.2, ⟨hk.1.1.1.2, hk.1.1.2⟩⟩⟩⟩⟩⟩⟩⟩)), (by (with_reducible repeat (first | apply Kd.R_alloc | apply Kd.R_drewN | apply Kd.R_drew)); exact Kd.R_mono HO_287000.out (fun _ hk => ⟨hk.1.2, ⟨hk.2, ⟨hk.1.1.1, hk.1.1.2⟩⟩⟩)), (by (with_reducible repeat (first | apply Kd.R_alloc | apply Kd.R_drewN | apply Kd.R_drew)); exact Kd.R_mono HO_287001.out (fun _ hk => ⟨hk.1.1.1.2, ⟨hk.1.1.2, ⟨hk.1.2, ⟨hk.2, ⟨hk.1.1.1.1.1, ⟨hk.1.1.1.1.2.1, ⟨hk.1.1.1.1.2.2.1, ⟨hk.1.1.1.1.2.2.2.1, hk.1.1.1.1.2.2.2.2⟩⟩⟩⟩⟩⟩⟩⟩)), (by (with_reducible repeat (first | apply Kd.R_alloc | apply Kd.R_drewN | apply Kd.R_drew)); exact Kd.R_mono HO_287002.out (fun _ hk => ⟨hk.1.1.1.2, ⟨hk.1.1.2, ⟨hk.1.2, ⟨hk.2, ⟨hk.1.1.1.1.1, ⟨hk.1.1.1.1.2.1, ⟨hk.1.1.1.1.2.2.1, ⟨hk.1.1.1.1.2.2.2.1, hk.1.1.1.1.2.2.2.2⟩⟩⟩⟩⟩⟩⟩⟩)), (by (with_reducible repeat (first | apply Kd.R_alloc | apply Kd.R_drewN | apply Kd.R_drew)); exact Kd.R_mono HO_299000.out (fun _ hk => ⟨hk.1.2, ⟨hk.2, ⟨hk.1.1.1, hk.1.1.2⟩⟩⟩)), (by (with_reducible repeat (first | apply Kd.R_alloc | apply Kd.R_drewN | apply Kd.R_drew)); exact Kd.R_mono HO_299001.out (fun _ hk => ⟨hk.1.1.1.2, ⟨hk.1.1.2, ⟨hk.1.2, ⟨hk.2, ⟨hk.1.1.1.1.1, ⟨hk.1.1.1.1.2.1, ⟨hk.1.1.1.1.2.2.1, ⟨hk.1.1.1.1.2.2.2.1, hk.1.1.1.1.2.2.2.2⟩⟩⟩⟩⟩⟩⟩⟩)), (by (with_reducible repeat (first | apply Kd.R_alloc | apply Kd.R_drewN | apply Kd.R_drew)); exact Kd.R_mono HO_299002.out (fun _ hk => ⟨hk.1.1.1.2, ⟨hk.1.1.2, ⟨hk.1.2, ⟨hk.2, ⟨hk.1.1.1.1.1, ⟨hk.1.1.1.1.2.1, ⟨hk.1.1.1.1.2.2.1, ⟨hk.1.1.1.1.2.2.2.1, hk.1.1.1.1.2.2.2.2⟩⟩⟩⟩⟩⟩⟩⟩)), (by (with_reducible repeat (first | apply Kd.R_alloc | apply Kd.R_drewN | apply Kd.R_drew)); exact Kd.R_mono HO_314000.out (fun _ hk => ⟨hk.1.2, ⟨hk.2, ⟨hk.1.1.1, hk.1.1.2⟩⟩⟩)), (by (with_reducible repeat (first | apply Kd.R_alloc | apply Kd.R_drewN | apply Kd.R_drew)); exact Kd.R_mono HO_314001.out (fun _ hk => ⟨hk.1.1.1.2, ⟨hk.1.1.2, ⟨hk.1.2, ⟨hk.2, ⟨hk.1.1.1.1.1, ⟨hk.1.1.1.1.2.1, ⟨hk.1.1.1.1.2.2.1, ⟨hk.1.1.1.1.2.2.2.1, hk.1.1.1.1.2.2.2.2⟩⟩⟩⟩⟩⟩⟩⟩)), (by (with_reducible repeat (first | apply Kd.R_alloc | apply Kd.R_drewN | apply Kd.R_drew)); exact Kd.R_mono HO_314002.out (fun _ hk => ⟨hk.1.1.1.2, ⟨hk.1.1.2, ⟨hk.1.2, ⟨hk.2, ⟨hk.1.1.1.1.1, ⟨hk.1.1.1.1.2.1, ⟨hk.1.1.1.1.2.2.1, ⟨hk.1.1.1.1.2.2.2.1, hk.1.1.1.1.2.2.2.2⟩⟩⟩⟩⟩⟩⟩⟩)), (bx BK258.out), (bx BK259.out), (bx BK286.out), (bx BK298.out), (bx BK313.out), (bx BK362.out), GW362.out, GE362.out, NB258_362.out, NB362_258.out, NB259_362.out, NB362_259.out, NB286_362.out, NB362_286.out, NB298_362.out, NB362_298.out, NB313_362.out, NB362_313.out, (be w)⟩)
       ·
        skip
        refine box_step ?hg (N := 14) ?hd (cs := #[.slice none 0 0, .slice none 0 0, .slice none 0 0, .int .i64 0, .int .i64 0]) (t := 34) ?hr ?_; (case hd => rfl); (case hg => rfl); (case hr => first | (go_simp; done) | (go_simp; rfl))
        intro gb362 hg w149 hbox hb
        replace HO_287000 := As.mk (Kd.R_below (by (with_reducible repeat (first | apply Kd.R_alloc | apply Kd.R_drewN | apply Kd.R_drew)); exact HO_287000.out) hb)
        replace HO_287001 := As.mk (Kd.R_below (by (with_reducible repeat (first | apply Kd.R_alloc | apply Kd.R_drewN | apply Kd.R_drew)); exact HO_287001.out) hb)
        replace HO_287002 := As.mk (Kd.R_below (by (with_reducible repeat (first | apply Kd.R_alloc | apply Kd.R_drewN | apply Kd.R_drew)); exact HO_287002.out) hb)
        replace HO_299000 := As.mk (Kd.R_below (by (with_reducible repeat (first | apply Kd.R_alloc | apply Kd.R_drewN | apply Kd.R_drew)); exact HO_299000.out) hb)
        replace HO_299001 := As.mk (Kd.R_below (by (with_reducible repeat (first | apply Kd.R_alloc | apply Kd.R_drewN | apply Kd.R_drew)); exact HO_299001.out) hb)
        replace HO_299002 := As.mk (Kd.R_below (by (with_reducible repeat (first | apply Kd.R_alloc | apply Kd.R_drewN | apply Kd.R_drew)); exact HO_299002.out) hb)
        replace HO_314000 := As.mk (Kd.R_below (by (with_reducible repeat (first | apply Kd.R_alloc | apply Kd.R_drewN | apply Kd.R_drew)); exact HO_314000.out) hb)
        replace HO_314001 := As.mk (Kd.R_below (by (with_reducible repeat (first | apply Kd.R_alloc | apply Kd.R_drewN | apply Kd.R_drew)); exact HO_314001.out) hb)
        replace HO_314002 := As.mk (Kd.R_below (by (with_reducible repeat (first | apply Kd.R_alloc | apply Kd.R_drewN | apply Kd.R_drew)); exact HO_314002.out) hb)
        replace HO339 := As.mk (Kd.R_below (by (with_reducible repeat (first | apply Kd.R_alloc | apply Kd.R_drewN | apply Kd.R_drew)); exact HO339.out) hb)
        replace HO342 := As.mk (Kd.R_below (by (with_reducible repeat (first | apply Kd.R_alloc | apply Kd.R_drewN | apply Kd.R_drew)); exact HO342.out) hb)
        replace HO345 := As.mk (Kd.R_below (by (with_reducible repeat (first | apply Kd.R_alloc | apply Kd.R_drewN | apply Kd.R_drew)); exact HO345.out) hb)
        have BK362 := As.mk (hbox)
        have GW362 := As.mk (gs w hg)
        have GE362 := As.mk (gs w hg)
        replace HB := As.mk (below_step (be w) hb)
        have NB258_362 := As.mk (nl hg (bx BK258.out))
        have NB362_258 := As.mk (ng hg (bx BK258.out))
        replace BK258 := As.mk (blk_below (bx BK258.out) hb)
        have NB259_362 := As.mk (nl hg (bx BK259.out))
        have NB362_259 := As.mk (ng hg (bx BK259.out))
        replace BK259 := As.mk (blk_below (bx BK259.out) hb)
        have NB286_362 := As.mk (nl hg (bx BK286.out))
        have NB362_286 := As.mk (ng hg (bx BK286.out))
        replace BK286 := As.mk (blk_below (bx BK286.out) hb)
        have NB298_362 := As.mk (nl hg (bx BK298.out))
        have NB362_298 := As.mk (ng hg (bx BK298.out))
        replace BK298 := As.mk (blk_below (bx BK298.out) hb)
        have NB313_362 := As.mk (nl hg (bx BK313.out))
        have NB362_313 := As.mk (ng hg (bx BK313.out))
        replace BK313 := As.mk (blk_below (bx BK313.out) hb)
        clear hb hbox hg
        obtain ⟨Ao150, co150, eo150⟩ := Kd.R_slice HO339.out
        (first | subst eo150 | (injection eo150 with f1_ f2_ f3_; have f4_ := f1_.symm; have f5_ := f3_.symm; clear f1_ f2_ f3_; subst f4_; subst f5_))
        obtain ⟨Ao151, co151, eo151⟩ := Kd.R_slice HO342.out
        (first | subst eo151 | (injection eo151 with f1_ f2_ f3_; have f4_ := f1_.symm; have f5_ := f3_.symm; clear f1_ f2_ f3_; subst f4_; subst f5_))
        obtain ⟨Ao152, co152, eo152⟩ := Kd.R_slice HO345.out
        (first | subst eo152 | (injection eo152 with f1_ f2_ f3_; have f4_ := f1_.symm; have f5_ := f3_.symm; clear f1_ f2_ f3_; subst f4_; subst f5_))
        refine hK.out _ _ ⟨(blk_cell BK258.out 0).trans rfl, (blk_cell BK258.out 1).trans rfl, (blk_cell BK258.out 2).trans rfl, (blk_cell BK258.out 3).trans rfl, (blk_cell BK258.out 4).trans rfl, (blk_cell BK259.out 0).trans rfl, (blk_cell BK259.out 1).trans rfl⟩ (fun hHeld => ?_)
        clear hK K
        refine norm_ (a' := ?_) ?_ ?_
        rotate_left
        ·
         show Act.put _ (some 14) _ = _
         simp only [pk, i64_w, i32_w]
         rfl
        refine one_ (i := 4) (N := some 84) #[I, I, I, I, I, O, O, O, I, O, O] rfl rfl (one_of HT_.out (by kernel_rfl)) (by decide) (fun K hK => ?_)
        refine goes_ Try.func19 (by kernel_rfl) rfl #[.agg #[.slice Ao150 t337.length co150, .slice Ao151 t340.length co151, .slice Ao152 t343.length co152, .int .i64 t346, .int .i64 t347], .agg #[.int .i64 t348, .int .i64 t349]] (by rfl) rfl rfl (by (try simp only [lm]); first | done | rfl | (simp only [List.length_drop, List.length_take]; rfl)) ?_
        with_reducible refine (impl_Looked.calls _ _ t337 _ _ t340 _ _ t343 t346 t347 t348 t349 t350 t353 t356 t359 t360 t361 _ ?side1 ?side2 ?side3 ?side4 ?side5 ?side6 A144.out).mono ?_
        (case side1 => repeat (first | exact (Kd.R_reads' HO339.out).2.2 | (with_reducible refine Kd.C_alloc ?_ _) | (with_reducible refine Kd.C_drewN ?_ _) | (with_reducible refine Kd.C_drew ?_)))
        (case side2 => exact (Kd.R_reads' HO339.out).2.1)
        (case side3 => repeat (first | exact (Kd.R_reads' HO342.out).2.2 | (with_reducible refine Kd.C_alloc ?_ _) | (with_reducible refine Kd.C_drewN ?_ _) | (with_reducible refine Kd.C_drew ?_)))
        (case side4 => exact (Kd.R_reads' HO342.out).2.1)
        (case side5 => repeat (first | exact (Kd.R_reads' HO345.out).2.2 | (with_reducible refine Kd.C_alloc ?_ _) | (with_reducible refine Kd.C_drewN ?_ _) | (with_reducible refine Kd.C_drew ?_)))
        (case side6 => exact (Kd.R_reads' HO345.out).2.1)
        rintro e w153 ⟨v351, v354, v357, rfl, ho0, ho1, ho2, hb⟩
        refine ⟨_, rfl, ?_⟩
        have HO352 := As.mk (Kd.R_lower (Kd.R_new' (Kd.R_new' (Kd.R_new' (Kd.R_new' ho0 (Kd.R_lt (by (with_reducible repeat (first | apply Kd.R_alloc | apply Kd.R_drewN | apply Kd.R_drew)); exact HO_287000.out))) (Kd.R_lt (by (with_reducible repeat (first | apply Kd.R_alloc | apply Kd.R_drewN | apply Kd.R_drew)); exact HO_299000.out))) (Kd.R_lt (by (with_reducible repeat (first | apply Kd.R_alloc | apply Kd.R_drewN | apply Kd.R_drew)); exact HO_314000.out))) (Kd.R_lt (by (with_reducible repeat (first | apply Kd.R_alloc | apply Kd.R_drewN | apply Kd.R_drew)); exact HO339.out))) (below_size (be w)))
        replace HO_287000 := As.mk (Kd.R_elder' (by (with_reducible repeat (first | apply Kd.R_alloc | apply Kd.R_drewN | apply Kd.R_drew)); exact HO_287000.out) (Kd.R_base ho0) hb)
        replace HO_299000 := As.mk (Kd.R_elder' (by (with_reducible repeat (first | apply Kd.R_alloc | apply Kd.R_drewN | apply Kd.R_drew)); exact HO_299000.out) (Kd.R_base ho0) hb)
        replace HO_314000 := As.mk (Kd.R_elder' (by (with_reducible repeat (first | apply Kd.R_alloc | apply Kd.R_drewN | apply Kd.R_drew)); exact HO_314000.out) (Kd.R_base ho0) hb)
        replace HO339 := As.mk (Kd.R_elder' (by (with_reducible repeat (first | apply Kd.R_alloc | apply Kd.R_drewN | apply Kd.R_drew)); exact HO339.out) (Kd.R_base ho0) hb)
        have HO355 := As.mk (Kd.R_lower (Kd.R_new' (Kd.R_new' (Kd.R_new' (Kd.R_new' (Kd.R_new' (Kd.R_new' (Kd.R_new' (Kd.R_new' ho1 (Kd.R_lt (by (with_reducible repeat (first | apply Kd.R_alloc | apply Kd.R_drewN | apply Kd.R_drew)); exact HO_287001.out))) (Kd.R_lt (by (with_reducible repeat (first | apply Kd.R_alloc | apply Kd.R_drewN | apply Kd.R_drew)); exact HO_287002.out))) (Kd.R_lt (by (with_reducible repeat (first | apply Kd.R_alloc | apply Kd.R_drewN | apply Kd.R_drew)); exact HO_299001.out))) (Kd.R_lt (by (with_reducible repeat (first | apply Kd.R_alloc | apply Kd.R_drewN | apply Kd.R_drew)); exact HO_299002.out))) (Kd.R_lt (by (with_reducible repeat (first | apply Kd.R_alloc | apply Kd.R_drewN | apply Kd.R_drew)); exact HO_314001.out))) (Kd.R_lt (by (with_reducible repeat (first | apply Kd.R_alloc | apply Kd.R_drewN | apply Kd.R_drew)); exact HO_314002.out))) (Kd.R_lt (by (with_reducible repeat (first | apply Kd.R_alloc | apply Kd.R_drewN | apply Kd.R_drew)); exact HO342.out))) (Kd.R_lt (by (with_reducible repeat (first | apply Kd.R_alloc | apply Kd.R_drewN | apply Kd.R_drew)); exact HO345.out))) (below_size (be w)))
        have HO358 := As.mk (Kd.R_lower (Kd.R_new' (Kd.R_new' (Kd.R_new' (Kd.R_new' (Kd.R_new' (Kd.R_new' (Kd.R_new' (Kd.R_new' ho2 (Kd.R_lt (by (with_reducible repeat (first | apply Kd.R_alloc | apply Kd.R_drewN | apply Kd.R_drew)); exact HO_287001.out))) (Kd.R_lt (by (with_reducible repeat (first | apply Kd.R_alloc | apply Kd.R_drewN | apply Kd.R_drew)); exact HO_287002.out))) (Kd.R_lt (by (with_reducible repeat (first | apply Kd.R_alloc | apply Kd.R_drewN | apply Kd.R_drew)); exact HO_299001.out))) (Kd.R_lt (by (with_reducible repeat (first | apply Kd.R_alloc | apply Kd.R_drewN | apply Kd.R_drew)); exact HO_299002.out))) (Kd.R_lt (by (with_reducible repeat (first | apply Kd.R_alloc | apply Kd.R_drewN | apply Kd.R_drew)); exact HO_314001.out))) (Kd.R_lt (by (with_reducible repeat (first | apply Kd.R_alloc | apply Kd.R_drewN | apply Kd.R_drew)); exact HO_314002.out))) (Kd.R_lt (by (with_reducible repeat (first | apply Kd.R_alloc | apply Kd.R_drewN | apply Kd.R_drew)); exact HO342.out))) (Kd.R_lt (by (with_reducible repeat (first | apply Kd.R_alloc | apply Kd.R_drewN | apply Kd.R_drew)); exact HO345.out))) (below_size (be w)))
        replace HO_287001 := As.mk (Kd.R_mono (Kd.R_told (Kd.R_told (Kd.R_old (by (with_reducible repeat (first | apply Kd.R_alloc | apply Kd.R_drewN | apply Kd.R_drew)); exact HO_287001.out) hb) (Kd.R_base ho1)) (Kd.R_base ho2)) (fun _ h_ => h_.1))
        replace HO_287002 := As.mk (Kd.R_mono (Kd.R_told (Kd.R_told (Kd.R_old (by (with_reducible repeat (first | apply Kd.R_alloc | apply Kd.R_drewN | apply Kd.R_drew)); exact HO_287002.out) hb) (Kd.R_base ho1)) (Kd.R_base ho2)) (fun _ h_ => h_.1))
        replace HO_299001 := As.mk (Kd.R_mono (Kd.R_told (Kd.R_told (Kd.R_old (by (with_reducible repeat (first | apply Kd.R_alloc | apply Kd.R_drewN | apply Kd.R_drew)); exact HO_299001.out) hb) (Kd.R_base ho1)) (Kd.R_base ho2)) (fun _ h_ => h_.1))
        replace HO_299002 := As.mk (Kd.R_mono (Kd.R_told (Kd.R_told (Kd.R_old (by (with_reducible repeat (first | apply Kd.R_alloc | apply Kd.R_drewN | apply Kd.R_drew)); exact HO_299002.out) hb) (Kd.R_base ho1)) (Kd.R_base ho2)) (fun _ h_ => h_.1))
        replace HO_314001 := As.mk (Kd.R_mono (Kd.R_told (Kd.R_told (Kd.R_old (by (with_reducible repeat (first | apply Kd.R_alloc | apply Kd.R_drewN | apply Kd.R_drew)); exact HO_314001.out) hb) (Kd.R_base ho1)) (Kd.R_base ho2)) (fun _ h_ => h_.1))
        replace HO_314002 := As.mk (Kd.R_mono (Kd.R_told (Kd.R_told (Kd.R_old (by (with_reducible repeat (first | apply Kd.R_alloc | apply Kd.R_drewN | apply Kd.R_drew)); exact HO_314002.out) hb) (Kd.R_base ho1)) (Kd.R_base ho2)) (fun _ h_ => h_.1))
        replace HO342 := As.mk (Kd.R_mono (Kd.R_told (Kd.R_told (Kd.R_old (by (with_reducible repeat (first | apply Kd.R_alloc | apply Kd.R_drewN | apply Kd.R_drew)); exact HO342.out) hb) (Kd.R_base ho1)) (Kd.R_base ho2)) (fun _ h_ => h_.1))
        replace HO345 := As.mk (Kd.R_mono (Kd.R_told (Kd.R_told (Kd.R_old (by (with_reducible repeat (first | apply Kd.R_alloc | apply Kd.R_drewN | apply Kd.R_drew)); exact HO345.out) hb) (Kd.R_base ho1)) (Kd.R_base ho2)) (fun _ h_ => h_.1))
        replace BK258 := As.mk (blk_below (bx BK258.out) hb)
        replace BK259 := As.mk (blk_below (bx BK259.out) hb)
        replace BK286 := As.mk (blk_below (bx BK286.out) hb)
        replace BK298 := As.mk (blk_below (bx BK298.out) hb)
        replace BK313 := As.mk (blk_below (bx BK313.out) hb)
        replace BK362 := As.mk (blk_below (bx BK362.out) hb)
        replace HB := As.mk (below_step (be w) hb)
        (try clear hb)
        (try clear hb2)
        (try clear hk)
        (try clear hi)
        (try clear ho0)
        (try clear ho1)
        (try clear ho2)
        refine hK.out _ _ ⟨(blk_cell BK258.out 0).trans rfl, (blk_cell BK258.out 1).trans rfl, (blk_cell BK258.out 2).trans rfl, (blk_cell BK258.out 3).trans rfl, (blk_cell BK258.out 4).trans rfl, (blk_cell BK259.out 0).trans rfl, (blk_cell BK259.out 1).trans rfl⟩ (fun hHeld => ?_)
        clear hK K
        refine norm_ (a' := ?_) ?_ ?_
        rotate_left
        ·
         show Act.put _ (some 84) _ = _
         simp only [pk, i64_w, i32_w]
         rfl
        refine pure_ (i := 5) (N := some 79) (v := ?_) (a' := ?_) #[I, I, I, I, I, I, O, O, I, O, O] rfl rfl (any_of HT_.out (by kernel_rfl)) (fun _ _ _ h => h) (Or.inl ⟨by rfl, ?_⟩) ?_ ?_
        rotate_left
        ·
         intro w'
         go_simp
         with_reducible rfl
        rotate_left
        ·
         simp only [pk, i64_w, i32_w]
         rfl
        refine pure_ (i := 6) (N := some 85) (v := ?_) (a' := ?_) #[I, I, I, I, I, I, I, O, I, O, O] rfl rfl (any_of HT_.out (by kernel_rfl)) (fun _ _ _ h => h) (Or.inl ⟨by rfl, ?_⟩) ?_ ?_
        rotate_left
        ·
         intro w'
         go_simp
         with_reducible rfl
        rotate_left
        ·
         simp only [pk, i64_w, i32_w]
         rfl
        refine pure_ (i := 7) (N := some 86) (v := ?_) (a' := ?_) #[I, I, I, I, I, I, I, I, I, O, O] rfl rfl (any_of HT_.out (by kernel_rfl)) (fun _ _ _ h => h) (Or.inl ⟨by rfl, ?_⟩) ?_ ?_
        rotate_left
        ·
         intro w'
         go_simp
         with_reducible rfl
        rotate_left
        ·
         simp only [pk, i64_w, i32_w]
         rfl
        exact norm_ (by simp only [putAll, Act.put, List.setIfInBounds_toArray, List.set_cons_zero, List.set_cons_succ]) (hCont (.slice Ao150 t337.length co150, .slice Ao151 t340.length co151, .slice Ao152 t343.length co152, v351, v354, v357, gb362) _ ⟨hHeld, (by (with_reducible repeat (first | apply Kd.R_alloc | apply Kd.R_drewN | apply Kd.R_drew)); exact Kd.R_mono HO339.out (fun _ hk => ⟨hk.2, ⟨hk.1.1.1.2, ⟨hk.1.1.2, hk.1.2⟩⟩⟩)), (by (with_reducible repeat (first | apply Kd.R_alloc | apply Kd.R_drewN | apply Kd.R_drew)); exact Kd.R_mono HO342.out (fun _ hk => ⟨hk.1.1.1.1.1.1.1.1, ⟨hk.1.2, ⟨hk.2, ⟨hk.1.1.1.1.1.1.1.2, ⟨hk.1.1.1.1.1.1.2, ⟨hk.1.1.1.1.1.2, ⟨hk.1.1.1.1.2, ⟨hk.1.1.1.2, hk.1.1.2⟩⟩⟩⟩⟩⟩⟩⟩)), (by (with_reducible repeat (first | apply Kd.R_alloc | apply Kd.R_drewN | apply Kd.R_drew)); exact Kd.R_mono HO345.out (fun _ hk => ⟨hk.1.1.1.1.1.1.1.1, ⟨hk.1.2, ⟨hk.2, ⟨hk.1.1.1.1.1.1.1.2, ⟨hk.1.1.1.1.1.1.2, ⟨hk.1.1.1.1.1.2, ⟨hk.1.1.1.1.2, ⟨hk.1.1.1.2, hk.1.1.2⟩⟩⟩⟩⟩⟩⟩⟩)), (by (with_reducible repeat (first | apply Kd.R_alloc | apply Kd.R_drewN | apply Kd.R_drew)); exact Kd.R_mono HO352.out (fun _ hk => ⟨hk.2, ⟨hk.1.1.1.2, ⟨hk.1.1.2, hk.1.2⟩⟩⟩)), (by (with_reducible repeat (first | apply Kd.R_alloc | apply Kd.R_drewN | apply Kd.R_drew)); exact Kd.R_mono HO355.out (fun _ hk => ⟨hk.1.2, ⟨hk.2, ⟨hk.1.1.1.1.1.1.1.1, ⟨hk.1.1.1.1.1.1.1.2, ⟨hk.1.1.1.1.1.1.2, ⟨hk.1.1.1.1.1.2, ⟨hk.1.1.1.1.2, ⟨hk.1.1.1.2, hk.1.1.2⟩⟩⟩⟩⟩⟩⟩⟩)), (by (with_reducible repeat (first | apply Kd.R_alloc | apply Kd.R_drewN | apply Kd.R_drew)); exact Kd.R_mono HO358.out (fun _ hk => ⟨hk.1.2, ⟨hk.2, ⟨hk.1.1.1.1.1.1.1.1, ⟨hk.1.1.1.1.1.1.1.2, ⟨hk.1.1.1.1.1.1.2, ⟨hk.1.1.1.1.1.2, ⟨hk.1.1.1.1.2, ⟨hk.1.1.1.2, hk.1.1.2⟩⟩⟩⟩⟩⟩⟩⟩)), (by (with_reducible repeat (first | apply Kd.R_alloc | apply Kd.R_drewN | apply Kd.R_drew)); exact Kd.R_mono HO_287000.out (fun _ hk => ⟨hk.1.2, ⟨hk.2, ⟨hk.1.1.1, hk.1.1.2⟩⟩⟩)), (by (with_reducible repeat (first | apply Kd.R_alloc | apply Kd.R_drewN | apply Kd.R_drew)); exact Kd.R_mono HO_287001.out (fun _ hk => ⟨hk.1.1.1.2, ⟨hk.1.1.2, ⟨hk.1.2, ⟨hk.2, ⟨hk.1.1.1.1.1, ⟨hk.1.1.1.1.2.1, ⟨hk.1.1.1.1.2.2.1, ⟨hk.1.1.1.1.2.2.2.1, hk.1.1.1.1.2.2.2.2⟩⟩⟩⟩⟩⟩⟩⟩)), (by (with_reducible repeat (first | apply Kd.R_alloc | apply Kd.R_drewN | apply Kd.R_drew)); exact Kd.R_mono HO_287002.out (fun _ hk => ⟨hk.1.1.1.2, ⟨hk.1.1.2, ⟨hk.1.2, ⟨hk.2, ⟨hk.1.1.1.1.1, ⟨hk.1.1.1.1.2.1, ⟨hk.1.1.1.1.2.2.1, ⟨hk.1.1.1.1.2.2.2.1, hk.1.1.1.1.2.2.2.2⟩⟩⟩⟩⟩⟩⟩⟩)), (by (with_reducible repeat (first | apply Kd.R_alloc | apply Kd.R_drewN | apply Kd.R_drew)); exact Kd.R_mono HO_299000.out (fun _ hk => ⟨hk.1.2, ⟨hk.2, ⟨hk.1.1.1, hk.1.1.2⟩⟩⟩)), (by (with_reducible repeat (first | apply Kd.R_alloc | apply Kd.R_drewN | apply Kd.R_drew)); exact Kd.R_mono HO_299001.out (fun _ hk => ⟨hk.1.1.1.2, ⟨hk.1.1.2, ⟨hk.1.2, ⟨hk.2, ⟨hk.1.1.1.1.1, ⟨hk.1.1.1.1.2.1, ⟨hk.1.1.1.1.2.2.1, ⟨hk.1.1.1.1.2.2.2.1, hk.1.1.1.1.2.2.2.2⟩⟩⟩⟩⟩⟩⟩⟩)), (by (with_reducible repeat (first | apply Kd.R_alloc | apply Kd.R_drewN | apply Kd.R_drew)); exact Kd.R_mono HO_299002.out (fun _ hk => ⟨hk.1.1.1.2, ⟨hk.1.1.2, ⟨hk.1.2, ⟨hk.2, ⟨hk.1.1.1.1.1, ⟨hk.1.1.1.1.2.1, ⟨hk.1.1.1.1.2.2.1, ⟨hk.1.1.1.1.2.2.2.1, hk.1.1.1.1.2.2.2.2⟩⟩⟩⟩⟩⟩⟩⟩)), (by (with_reducible repeat (first | apply Kd.R_alloc | apply Kd.R_drewN | apply Kd.R_drew)); exact Kd.R_mono HO_314000.out (fun _ hk => ⟨hk.1.2, ⟨hk.2, ⟨hk.1.1.1, hk.1.1.2⟩⟩⟩)), (by (with_reducible repeat (first | apply Kd.R_alloc | apply Kd.R_drewN | apply Kd.R_drew)); exact Kd.R_mono HO_314001.out (fun _ hk => ⟨hk.1.1.1.2, ⟨hk.1.1.2, ⟨hk.1.2, ⟨hk.2, ⟨hk.1.1.1.1.1, ⟨hk.1.1.1.1.2.1, ⟨hk.1.1.1.1.2.2.1, ⟨hk.1.1.1.1.2.2.2.1, hk.1.1.1.1.2.2.2.2⟩⟩⟩⟩⟩⟩⟩⟩)), (by (with_reducible repeat (first | apply Kd.R_alloc | apply Kd.R_drewN | apply Kd.R_drew)); exact Kd.R_mono HO_314002.out (fun _ hk => ⟨hk.1.1.1.2, ⟨hk.1.1.2, ⟨hk.1.2, ⟨hk.2, ⟨hk.1.1.1.1.1, ⟨hk.1.1.1.1.2.1, ⟨hk.1.1.1.1.2.2.1, ⟨hk.1.1.1.1.2.2.2.1, hk.1.1.1.1.2.2.2.2⟩⟩⟩⟩⟩⟩⟩⟩)), (bx BK258.out), (bx BK259.out), (bx BK286.out), (bx BK298.out), (bx BK313.out), (bx BK362.out), GW362.out, GE362.out, NB258_362.out, NB362_258.out, NB259_362.out, NB362_259.out, NB286_362.out, NB362_286.out, NB298_362.out, NB362_298.out, NB313_362.out, NB362_313.out, (be w)⟩)
      ·
       skip
       refine box_step ?hg (N := 14) ?hd (cs := #[.slice none 0 0, .slice none 0 0, .slice none 0 0, .int .i64 0, .int .i64 0]) (t := 34) ?hr ?_; (case hd => rfl); (case hg => rfl); (case hr => first | (go_simp; done) | (go_simp; rfl))
       intro gb362 hg w148 hbox hb
       replace HO_287000 := As.mk (Kd.R_below (by (with_reducible repeat (first | apply Kd.R_alloc | apply Kd.R_drewN | apply Kd.R_drew)); exact HO_287000.out) hb)
       replace HO_287001 := As.mk (Kd.R_below (by (with_reducible repeat (first | apply Kd.R_alloc | apply Kd.R_drewN | apply Kd.R_drew)); exact HO_287001.out) hb)
       replace HO_287002 := As.mk (Kd.R_below (by (with_reducible repeat (first | apply Kd.R_alloc | apply Kd.R_drewN | apply Kd.R_drew)); exact HO_287002.out) hb)
       replace HO_299000 := As.mk (Kd.R_below (by (with_reducible repeat (first | apply Kd.R_alloc | apply Kd.R_drewN | apply Kd.R_drew)); exact HO_299000.out) hb)
       replace HO_299001 := As.mk (Kd.R_below (by (with_reducible repeat (first | apply Kd.R_alloc | apply Kd.R_drewN | apply Kd.R_drew)); exact HO_299001.out) hb)
       replace HO_299002 := As.mk (Kd.R_below (by (with_reducible repeat (first | apply Kd.R_alloc | apply Kd.R_drewN | apply Kd.R_drew)); exact HO_299002.out) hb)
       replace HO_314000 := As.mk (Kd.R_below (by (with_reducible repeat (first | apply Kd.R_alloc | apply Kd.R_drewN | apply Kd.R_drew)); exact HO_314000.out) hb)
       replace HO_314001 := As.mk (Kd.R_below (by (with_reducible repeat (first | apply Kd.R_alloc | apply Kd.R_drewN | apply Kd.R_drew)); exact HO_314001.out) hb)
       replace HO_314002 := As.mk (Kd.R_below (by (with_reducible repeat (first | apply Kd.R_alloc | apply Kd.R_drewN | apply Kd.R_drew)); exact HO_314002.out) hb)
       replace HO339 := As.mk (Kd.R_below (by (with_reducible repeat (first | apply Kd.R_alloc | apply Kd.R_drewN | apply Kd.R_drew)); exact HO339.out) hb)
       replace HO342 := As.mk (Kd.R_below (by (with_reducible repeat (first | apply Kd.R_alloc | apply Kd.R_drewN | apply Kd.R_drew)); exact HO342.out) hb)
       replace HO345 := As.mk (Kd.R_below (by (with_reducible repeat (first | apply Kd.R_alloc | apply Kd.R_drewN | apply Kd.R_drew)); exact HO345.out) hb)
       have BK362 := As.mk (hbox)
       have GW362 := As.mk (gs w hg)
       have GE362 := As.mk (gs w hg)
       replace HB := As.mk (below_step (be w) hb)
       have NB258_362 := As.mk (nl hg (bx BK258.out))
       have NB362_258 := As.mk (ng hg (bx BK258.out))
       replace BK258 := As.mk (blk_below (bx BK258.out) hb)
       have NB259_362 := As.mk (nl hg (bx BK259.out))
       have NB362_259 := As.mk (ng hg (bx BK259.out))
       replace BK259 := As.mk (blk_below (bx BK259.out) hb)
       have NB286_362 := As.mk (nl hg (bx BK286.out))
       have NB362_286 := As.mk (ng hg (bx BK286.out))
       replace BK286 := As.mk (blk_below (bx BK286.out) hb)
       have NB298_362 := As.mk (nl hg (bx BK298.out))
       have NB362_298 := As.mk (ng hg (bx BK298.out))
       replace BK298 := As.mk (blk_below (bx BK298.out) hb)
       have NB313_362 := As.mk (nl hg (bx BK313.out))
       have NB362_313 := As.mk (ng hg (bx BK313.out))
       replace BK313 := As.mk (blk_below (bx BK313.out) hb)
       clear hb hbox hg
       refine hK.out _ _ ⟨(blk_cell BK258.out 0).trans rfl, (blk_cell BK258.out 1).trans rfl, (blk_cell BK258.out 2).trans rfl, (blk_cell BK258.out 3).trans rfl, (blk_cell BK258.out 4).trans rfl, (blk_cell BK259.out 0).trans rfl, (blk_cell BK259.out 1).trans rfl⟩ (fun hHeld => ?_)
       clear hK K
       refine norm_ (a' := ?_) ?_ ?_
       rotate_left
       ·
        show Act.put _ (some 14) _ = _
        simp only [pk, i64_w, i32_w]
        rfl
       refine one_ (i := 3) (N := some 83) #[I, I, I, I, O, O, O, O, I, O, O] rfl rfl (one_of HT_.out (by kernel_rfl)) (by decide) (fun K hK => ?_)
       refine goes_ Try.func26 (by kernel_rfl) rfl #[.agg #[.int .i64 a1_0, .int .i64 a1_1]] (by rfl) rfl rfl (by (try simp only [lm]); first | done | rfl | (simp only [List.length_drop, List.length_take]; rfl)) ?_
       with_reducible refine (laws_toValue.calls a1_0 a1_1 t348 t349 _ A143.out).mono ?_
       rintro e w149 ⟨rfl, hb⟩
       refine ⟨_, rfl, ?_⟩
       replace HO_287000 := As.mk (Kd.R_below (by (with_reducible repeat (first | apply Kd.R_alloc | apply Kd.R_drewN | apply Kd.R_drew)); exact HO_287000.out) hb)
       replace HO_287001 := As.mk (Kd.R_below (by (with_reducible repeat (first | apply Kd.R_alloc | apply Kd.R_drewN | apply Kd.R_drew)); exact HO_287001.out) hb)
       replace HO_287002 := As.mk (Kd.R_below (by (with_reducible repeat (first | apply Kd.R_alloc | apply Kd.R_drewN | apply Kd.R_drew)); exact HO_287002.out) hb)
       replace HO_299000 := As.mk (Kd.R_below (by (with_reducible repeat (first | apply Kd.R_alloc | apply Kd.R_drewN | apply Kd.R_drew)); exact HO_299000.out) hb)
       replace HO_299001 := As.mk (Kd.R_below (by (with_reducible repeat (first | apply Kd.R_alloc | apply Kd.R_drewN | apply Kd.R_drew)); exact HO_299001.out) hb)
       replace HO_299002 := As.mk (Kd.R_below (by (with_reducible repeat (first | apply Kd.R_alloc | apply Kd.R_drewN | apply Kd.R_drew)); exact HO_299002.out) hb)
       replace HO_314000 := As.mk (Kd.R_below (by (with_reducible repeat (first | apply Kd.R_alloc | apply Kd.R_drewN | apply Kd.R_drew)); exact HO_314000.out) hb)
       replace HO_314001 := As.mk (Kd.R_below (by (with_reducible repeat (first | apply Kd.R_alloc | apply Kd.R_drewN | apply Kd.R_drew)); exact HO_314001.out) hb)
       replace HO_314002 := As.mk (Kd.R_below (by (with_reducible repeat (first | apply Kd.R_alloc | apply Kd.R_drewN | apply Kd.R_drew)); exact HO_314002.out) hb)
       replace HO339 := As.mk (Kd.R_below (by (with_reducible repeat (first | apply Kd.R_alloc | apply Kd.R_drewN | apply Kd.R_drew)); exact HO339.out) hb)
       replace HO342 := As.mk (Kd.R_below (by (with_reducible repeat (first | apply Kd.R_alloc | apply Kd.R_drewN | apply Kd.R_drew)); exact HO342.out) hb)
       replace HO345 := As.mk (Kd.R_below (by (with_reducible repeat (first | apply Kd.R_alloc | apply Kd.R_drewN | apply Kd.R_drew)); exact HO345.out) hb)
       replace BK258 := As.mk (blk_below (bx BK258.out) hb)
       replace BK259 := As.mk (blk_below (bx BK259.out) hb)
       replace BK286 := As.mk (blk_below (bx BK286.out) hb)
       replace BK298 := As.mk (blk_below (bx BK298.out) hb)
       replace BK313 := As.mk (blk_below (bx BK313.out) hb)
       replace BK362 := As.mk (blk_below (bx BK362.out) hb)
       replace HB := As.mk (below_step (be w) hb)
       (try clear hb)
       (try clear hb2)
       (try clear hk)
       (try clear hi)
       obtain ⟨Ao150, co150, eo150⟩ := Kd.R_slice HO339.out
       (first | subst eo150 | (injection eo150 with f1_ f2_ f3_; have f4_ := f1_.symm; have f5_ := f3_.symm; clear f1_ f2_ f3_; subst f4_; subst f5_))
       obtain ⟨Ao151, co151, eo151⟩ := Kd.R_slice HO342.out
       (first | subst eo151 | (injection eo151 with f1_ f2_ f3_; have f4_ := f1_.symm; have f5_ := f3_.symm; clear f1_ f2_ f3_; subst f4_; subst f5_))
       obtain ⟨Ao152, co152, eo152⟩ := Kd.R_slice HO345.out
       (first | subst eo152 | (injection eo152 with f1_ f2_ f3_; have f4_ := f1_.symm; have f5_ := f3_.symm; clear f1_ f2_ f3_; subst f4_; subst f5_))
       refine hK.out _ _ ⟨(blk_cell BK258.out 0).trans rfl, (blk_cell BK258.out 1).trans rfl, (blk_cell BK258.out 2).trans rfl, (blk_cell BK258.out 3).trans rfl, (blk_cell BK258.out 4).trans rfl, (blk_cell BK259.out 0).trans rfl, (blk_cell BK259.out 1).trans rfl⟩ (fun hHeld => ?_)
       clear hK K
       refine norm_ (a' := ?_) ?_ ?_
       rotate_left
       ·
        show Act.put _ (some 83) _ = _
        simp only [pk, i64_w, i32_w]
        rfl
       refine one_ (i := 4) (N := some 84) #[I, I, I, I, I, O, O, O, I, O, O] rfl rfl (one_of HT_.out (by kernel_rfl)) (by decide) (fun K hK => ?_)
       refine goes_ Try.func19 (by kernel_rfl) rfl #[.agg #[.slice Ao150 t337.length co150, .slice Ao151 t340.length co151, .slice Ao152 t343.length co152, .int .i64 t346, .int .i64 t347], .agg #[.int .i64 t348, .int .i64 t349]] (by rfl) rfl rfl (by (try simp only [lm]); first | done | rfl | (simp only [List.length_drop, List.length_take]; rfl)) ?_
       with_reducible refine (impl_Looked.calls _ _ t337 _ _ t340 _ _ t343 t346 t347 t348 t349 t350 t353 t356 t359 t360 t361 _ ?side1 ?side2 ?side3 ?side4 ?side5 ?side6 A144.out).mono ?_
       (case side1 => repeat (first | exact (Kd.R_reads' HO339.out).2.2 | (with_reducible refine Kd.C_alloc ?_ _) | (with_reducible refine Kd.C_drewN ?_ _) | (with_reducible refine Kd.C_drew ?_)))
       (case side2 => exact (Kd.R_reads' HO339.out).2.1)
       (case side3 => repeat (first | exact (Kd.R_reads' HO342.out).2.2 | (with_reducible refine Kd.C_alloc ?_ _) | (with_reducible refine Kd.C_drewN ?_ _) | (with_reducible refine Kd.C_drew ?_)))
       (case side4 => exact (Kd.R_reads' HO342.out).2.1)
       (case side5 => repeat (first | exact (Kd.R_reads' HO345.out).2.2 | (with_reducible refine Kd.C_alloc ?_ _) | (with_reducible refine Kd.C_drewN ?_ _) | (with_reducible refine Kd.C_drew ?_)))
       (case side6 => exact (Kd.R_reads' HO345.out).2.1)
       rintro e w153 ⟨v351, v354, v357, rfl, ho0, ho1, ho2, hb⟩
       refine ⟨_, rfl, ?_⟩
       have HO352 := As.mk (Kd.R_lower (Kd.R_new' (Kd.R_new' (Kd.R_new' (Kd.R_new' ho0 (Kd.R_lt (by (with_reducible repeat (first | apply Kd.R_alloc | apply Kd.R_drewN | apply Kd.R_drew)); exact HO_287000.out))) (Kd.R_lt (by (with_reducible repeat (first | apply Kd.R_alloc | apply Kd.R_drewN | apply Kd.R_drew)); exact HO_299000.out))) (Kd.R_lt (by (with_reducible repeat (first | apply Kd.R_alloc | apply Kd.R_drewN | apply Kd.R_drew)); exact HO_314000.out))) (Kd.R_lt (by (with_reducible repeat (first | apply Kd.R_alloc | apply Kd.R_drewN | apply Kd.R_drew)); exact HO339.out))) (below_size (be w)))
       replace HO_287000 := As.mk (Kd.R_elder' (by (with_reducible repeat (first | apply Kd.R_alloc | apply Kd.R_drewN | apply Kd.R_drew)); exact HO_287000.out) (Kd.R_base ho0) hb)
       replace HO_299000 := As.mk (Kd.R_elder' (by (with_reducible repeat (first | apply Kd.R_alloc | apply Kd.R_drewN | apply Kd.R_drew)); exact HO_299000.out) (Kd.R_base ho0) hb)
       replace HO_314000 := As.mk (Kd.R_elder' (by (with_reducible repeat (first | apply Kd.R_alloc | apply Kd.R_drewN | apply Kd.R_drew)); exact HO_314000.out) (Kd.R_base ho0) hb)
       replace HO339 := As.mk (Kd.R_elder' (by (with_reducible repeat (first | apply Kd.R_alloc | apply Kd.R_drewN | apply Kd.R_drew)); exact HO339.out) (Kd.R_base ho0) hb)
       have HO355 := As.mk (Kd.R_lower (Kd.R_new' (Kd.R_new' (Kd.R_new' (Kd.R_new' (Kd.R_new' (Kd.R_new' (Kd.R_new' (Kd.R_new' ho1 (Kd.R_lt (by (with_reducible repeat (first | apply Kd.R_alloc | apply Kd.R_drewN | apply Kd.R_drew)); exact HO_287001.out))) (Kd.R_lt (by (with_reducible repeat (first | apply Kd.R_alloc | apply Kd.R_drewN | apply Kd.R_drew)); exact HO_287002.out))) (Kd.R_lt (by (with_reducible repeat (first | apply Kd.R_alloc | apply Kd.R_drewN | apply Kd.R_drew)); exact HO_299001.out))) (Kd.R_lt (by (with_reducible repeat (first | apply Kd.R_alloc | apply Kd.R_drewN | apply Kd.R_drew)); exact HO_299002.out))) (Kd.R_lt (by (with_reducible repeat (first | apply Kd.R_alloc | apply Kd.R_drewN | apply Kd.R_drew)); exact HO_314001.out))) (Kd.R_lt (by (with_reducible repeat (first | apply Kd.R_alloc | apply Kd.R_drewN | apply Kd.R_drew)); exact HO_314002.out))) (Kd.R_lt (by (with_reducible repeat (first | apply Kd.R_alloc | apply Kd.R_drewN | apply Kd.R_drew)); exact HO342.out))) (Kd.R_lt (by (with_reducible repeat (first | apply Kd.R_alloc | apply Kd.R_drewN | apply Kd.R_drew)); exact HO345.out))) (below_size (be w)))
       have HO358 := As.mk (Kd.R_lower (Kd.R_new' (Kd.R_new' (Kd.R_new' (Kd.R_new' (Kd.R_new' (Kd.R_new' (Kd.R_new' (Kd.R_new' ho2 (Kd.R_lt (by (with_reducible repeat (first | apply Kd.R_alloc | apply Kd.R_drewN | apply Kd.R_drew)); exact HO_287001.out))) (Kd.R_lt (by (with_reducible repeat (first | apply Kd.R_alloc | apply Kd.R_drewN | apply Kd.R_drew)); exact HO_287002.out))) (Kd.R_lt (by (with_reducible repeat (first | apply Kd.R_alloc | apply Kd.R_drewN | apply Kd.R_drew)); exact HO_299001.out))) (Kd.R_lt (by (with_reducible repeat (first | apply Kd.R_alloc | apply Kd.R_drewN | apply Kd.R_drew)); exact HO_299002.out))) (Kd.R_lt (by (with_reducible repeat (first | apply Kd.R_alloc | apply Kd.R_drewN | apply Kd.R_drew)); exact HO_314001.out))) (Kd.R_lt (by (with_reducible repeat (first | apply Kd.R_alloc | apply Kd.R_drewN | apply Kd.R_drew)); exact HO_314002.out))) (Kd.R_lt (by (with_reducible repeat (first | apply Kd.R_alloc | apply Kd.R_drewN | apply Kd.R_drew)); exact HO342.out))) (Kd.R_lt (by (with_reducible repeat (first | apply Kd.R_alloc | apply Kd.R_drewN | apply Kd.R_drew)); exact HO345.out))) (below_size (be w)))
       replace HO_287001 := As.mk (Kd.R_mono (Kd.R_told (Kd.R_told (Kd.R_old (by (with_reducible repeat (first | apply Kd.R_alloc | apply Kd.R_drewN | apply Kd.R_drew)); exact HO_287001.out) hb) (Kd.R_base ho1)) (Kd.R_base ho2)) (fun _ h_ => h_.1))
       replace HO_287002 := As.mk (Kd.R_mono (Kd.R_told (Kd.R_told (Kd.R_old (by (with_reducible repeat (first | apply Kd.R_alloc | apply Kd.R_drewN | apply Kd.R_drew)); exact HO_287002.out) hb) (Kd.R_base ho1)) (Kd.R_base ho2)) (fun _ h_ => h_.1))
       replace HO_299001 := As.mk (Kd.R_mono (Kd.R_told (Kd.R_told (Kd.R_old (by (with_reducible repeat (first | apply Kd.R_alloc | apply Kd.R_drewN | apply Kd.R_drew)); exact HO_299001.out) hb) (Kd.R_base ho1)) (Kd.R_base ho2)) (fun _ h_ => h_.1))
       replace HO_299002 := As.mk (Kd.R_mono (Kd.R_told (Kd.R_told (Kd.R_old (by (with_reducible repeat (first | apply Kd.R_alloc | apply Kd.R_drewN | apply Kd.R_drew)); exact HO_299002.out) hb) (Kd.R_base ho1)) (Kd.R_base ho2)) (fun _ h_ => h_.1))
       replace HO_314001 := As.mk (Kd.R_mono (Kd.R_told (Kd.R_told (Kd.R_old (by (with_reducible repeat (first | apply Kd.R_alloc | apply Kd.R_drewN | apply Kd.R_drew)); exact HO_314001.out) hb) (Kd.R_base ho1)) (Kd.R_base ho2)) (fun _ h_ => h_.1))
       replace HO_314002 := As.mk (Kd.R_mono (Kd.R_told (Kd.R_told (Kd.R_old (by (with_reducible repeat (first | apply Kd.R_alloc | apply Kd.R_drewN | apply Kd.R_drew)); exact HO_314002.out) hb) (Kd.R_base ho1)) (Kd.R_base ho2)) (fun _ h_ => h_.1))
       replace HO342 := As.mk (Kd.R_mono (Kd.R_told (Kd.R_told (Kd.R_old (by (with_reducible repeat (first | apply Kd.R_alloc | apply Kd.R_drewN | apply Kd.R_drew)); exact HO342.out) hb) (Kd.R_base ho1)) (Kd.R_base ho2)) (fun _ h_ => h_.1))
       replace HO345 := As.mk (Kd.R_mono (Kd.R_told (Kd.R_told (Kd.R_old (by (with_reducible repeat (first | apply Kd.R_alloc | apply Kd.R_drewN | apply Kd.R_drew)); exact HO345.out) hb) (Kd.R_base ho1)) (Kd.R_base ho2)) (fun _ h_ => h_.1))
       replace BK258 := As.mk (blk_below (bx BK258.out) hb)
       replace BK259 := As.mk (blk_below (bx BK259.out) hb)
       replace BK286 := As.mk (blk_below (bx BK286.out) hb)
       replace BK298 := As.mk (blk_below (bx BK298.out) hb)
       replace BK313 := As.mk (blk_below (bx BK313.out) hb)
       replace BK362 := As.mk (blk_below (bx BK362.out) hb)
       replace HB := As.mk (below_step (be w) hb)
       (try clear hb)
       (try clear hb2)
       (try clear hk)
       (try clear hi)
       (try clear ho0)
       (try clear ho1)
       (try clear ho2)
       refine hK.out _ _ ⟨(blk_cell BK258.out 0).trans rfl, (blk_cell BK258.out 1).trans rfl, (blk_cell BK258.out 2).trans rfl, (blk_cell BK258.out 3).trans rfl, (blk_cell BK258.out 4).trans rfl, (blk_cell BK259.out 0).trans rfl, (blk_cell BK259.out 1).trans rfl⟩ (fun hHeld => ?_)
       clear hK K
       refine norm_ (a' := ?_) ?_ ?_
       rotate_left
       ·
        show Act.put _ (some 84) _ = _
        simp only [pk, i64_w, i32_w]
        rfl
       refine pure_ (i := 5) (N := some 79) (v := ?_) (a' := ?_) #[I, I, I, I, I, I, O, O, I, O, O] rfl rfl (any_of HT_.out (by kernel_rfl)) (fun _ _ _ h => h) (Or.inl ⟨by rfl, ?_⟩) ?_ ?_
       rotate_left
       ·
        intro w'
        go_simp
        with_reducible rfl
       rotate_left
       ·
        simp only [pk, i64_w, i32_w]
        rfl
       refine pure_ (i := 6) (N := some 85) (v := ?_) (a' := ?_) #[I, I, I, I, I, I, I, O, I, O, O] rfl rfl (any_of HT_.out (by kernel_rfl)) (fun _ _ _ h => h) (Or.inl ⟨by rfl, ?_⟩) ?_ ?_
       rotate_left
       ·
        intro w'
        go_simp
        with_reducible rfl
       rotate_left
       ·
        simp only [pk, i64_w, i32_w]
        rfl
       refine pure_ (i := 7) (N := some 86) (v := ?_) (a' := ?_) #[I, I, I, I, I, I, I, I, I, O, O] rfl rfl (any_of HT_.out (by kernel_rfl)) (fun _ _ _ h => h) (Or.inl ⟨by rfl, ?_⟩) ?_ ?_
       rotate_left
       ·
        intro w'
        go_simp
        with_reducible rfl
       rotate_left
       ·
        simp only [pk, i64_w, i32_w]
        rfl
       exact norm_ (by simp only [putAll, Act.put, List.setIfInBounds_toArray, List.set_cons_zero, List.set_cons_succ]) (hCont (.slice Ao150 t337.length co150, .slice Ao151 t340.length co151, .slice Ao152 t343.length co152, v351, v354, v357, gb362) _ ⟨hHeld, (by (with_reducible repeat (first | apply Kd.R_alloc | apply Kd.R_drewN | apply Kd.R_drew)); exact Kd.R_mono HO339.out (fun _ hk => ⟨hk.2, ⟨hk.1.1.1.2, ⟨hk.1.1.2, hk.1.2⟩⟩⟩)), (by (with_reducible repeat (first | apply Kd.R_alloc | apply Kd.R_drewN | apply Kd.R_drew)); exact Kd.R_mono HO342.out (fun _ hk => ⟨hk.1.1.1.1.1.1.1.1, ⟨hk.1.2, ⟨hk.2, ⟨hk.1.1.1.1.1.1.1.2, ⟨hk.1.1.1.1.1.1.2, ⟨hk.1.1.1.1.1.2, ⟨hk.1.1.1.1.2, ⟨hk.1.1.1.2, hk.1.1.2⟩⟩⟩⟩⟩⟩⟩⟩)), (by (with_reducible repeat (first | apply Kd.R_alloc | apply Kd.R_drewN | apply Kd.R_drew)); exact Kd.R_mono HO345.out (fun _ hk => ⟨hk.1.1.1.1.1.1.1.1, ⟨hk.1.2, ⟨hk.2, ⟨hk.1.1.1.1.1.1.1.2, ⟨hk.1.1.1.1.1.1.2, ⟨hk.1.1.1.1.1.2, ⟨hk.1.1.1.1.2, ⟨hk.1.1.1.2, hk.1.1.2⟩⟩⟩⟩⟩⟩⟩⟩)), (by (with_reducible repeat (first | apply Kd.R_alloc | apply Kd.R_drewN | apply Kd.R_drew)); exact Kd.R_mono HO352.out (fun _ hk => ⟨hk.2, ⟨hk.1.1.1.2, ⟨hk.1.1.2, hk.1.2⟩⟩⟩)), (by (with_reducible repeat (first | apply Kd.R_alloc | apply Kd.R_drewN | apply Kd.R_drew)); exact Kd.R_mono HO355.out (fun _ hk => ⟨hk.1.2, ⟨hk.2, ⟨hk.1.1.1.1.1.1.1.1, ⟨hk.1.1.1.1.1.1.1.2, ⟨hk.1.1.1.1.1.1.2, ⟨hk.1.1.1.1.1.2, ⟨hk.1.1.1.1.2, ⟨hk.1.1.1.2, hk.1.1.2⟩⟩⟩⟩⟩⟩⟩⟩)), (by (with_reducible repeat (first | apply Kd.R_alloc | apply Kd.R_drewN | apply Kd.R_drew)); exact Kd.R_mono HO358.out (fun _ hk => ⟨hk.1.2, ⟨hk.2, ⟨hk.1.1.1.1.1.1.1.1, ⟨hk.1.1.1.1.1.1.1.2, ⟨hk.1.1.1.1.1.1.2, ⟨hk.1.1.1.1.1.2, ⟨hk.1.1.1.1.2, ⟨hk.1.1.1.2, hk.1.1.2⟩⟩⟩⟩⟩⟩⟩⟩)), (by (with_reducible repeat (first | apply Kd.R_alloc | apply Kd.R_drewN | apply Kd.R_drew)); exact Kd.R_mono HO_287000.out (fun _ hk => ⟨hk.1.2, ⟨hk.2, ⟨hk.1.1.1, hk.1.1.2⟩⟩⟩)), (by (with_reducible repeat (first | apply Kd.R_alloc | apply Kd.R_drewN | apply Kd.R_drew)); exact Kd.R_mono HO_287001.out (fun _ hk => ⟨hk.1.1.1.2, ⟨hk.1.1.2, ⟨hk.1.2, ⟨hk.2, ⟨hk.1.1.1.1.1, ⟨hk.1.1.1.1.2.1, ⟨hk.1.1.1.1.2.2.1, ⟨hk.1.1.1.1.2.2.2.1, hk.1.1.1.1.2.2.2.2⟩⟩⟩⟩⟩⟩⟩⟩)), (by (with_reducible repeat (first | apply Kd.R_alloc | apply Kd.R_drewN | apply Kd.R_drew)); exact Kd.R_mono HO_287002.out (fun _ hk => ⟨hk.1.1.1.2, ⟨hk.1.1.2, ⟨hk.1.2, ⟨hk.2, ⟨hk.1.1.1.1.1, ⟨hk.1.1.1.1.2.1, ⟨hk.1.1.1.1.2.2.1, ⟨hk.1.1.1.1.2.2.2.1, hk.1.1.1.1.2.2.2.2⟩⟩⟩⟩⟩⟩⟩⟩)), (by (with_reducible repeat (first | apply Kd.R_alloc | apply Kd.R_drewN | apply Kd.R_drew)); exact Kd.R_mono HO_299000.out (fun _ hk => ⟨hk.1.2, ⟨hk.2, ⟨hk.1.1.1, hk.1.1.2⟩⟩⟩)), (by (with_reducible repeat (first | apply Kd.R_alloc | apply Kd.R_drewN | apply Kd.R_drew)); exact Kd.R_mono HO_299001.out (fun _ hk => ⟨hk.1.1.1.2, ⟨hk.1.1.2, ⟨hk.1.2, ⟨hk.2, ⟨hk.1.1.1.1.1, ⟨hk.1.1.1.1.2.1, ⟨hk.1.1.1.1.2.2.1, ⟨hk.1.1.1.1.2.2.2.1, hk.1.1.1.1.2.2.2.2⟩⟩⟩⟩⟩⟩⟩⟩)), (by (with_reducible repeat (first | apply Kd.R_alloc | apply Kd.R_drewN | apply Kd.R_drew)); exact Kd.R_mono HO_299002.out (fun _ hk => ⟨hk.1.1.1.2, ⟨hk.1.1.2, ⟨hk.1.2, ⟨hk.2, ⟨hk.1.1.1.1.1, ⟨hk.1.1.1.1.2.1, ⟨hk.1.1.1.1.2.2.1, ⟨hk.1.1.1.1.2.2.2.1, hk.1.1.1.1.2.2.2.2⟩⟩⟩⟩⟩⟩⟩⟩)), (by (with_reducible repeat (first | apply Kd.R_alloc | apply Kd.R_drewN | apply Kd.R_drew)); exact Kd.R_mono HO_314000.out (fun _ hk => ⟨hk.1.2, ⟨hk.2, ⟨hk.1.1.1, hk.1.1.2⟩⟩⟩)), (by (with_reducible repeat (first | apply Kd.R_alloc | apply Kd.R_drewN | apply Kd.R_drew)); exact Kd.R_mono HO_314001.out (fun _ hk => ⟨hk.1.1.1.2, ⟨hk.1.1.2, ⟨hk.1.2, ⟨hk.2, ⟨hk.1.1.1.1.1, ⟨hk.1.1.1.1.2.1, ⟨hk.1.1.1.1.2.2.1, ⟨hk.1.1.1.1.2.2.2.1, hk.1.1.1.1.2.2.2.2⟩⟩⟩⟩⟩⟩⟩⟩)), (by (with_reducible repeat (first | apply Kd.R_alloc | apply Kd.R_drewN | apply Kd.R_drew)); exact Kd.R_mono HO_314002.out (fun _ hk => ⟨hk.1.1.1.2, ⟨hk.1.1.2, ⟨hk.1.2, ⟨hk.2, ⟨hk.1.1.1.1.1, ⟨hk.1.1.1.1.2.1, ⟨hk.1.1.1.1.2.2.1, ⟨hk.1.1.1.1.2.2.2.1, hk.1.1.1.1.2.2.2.2⟩⟩⟩⟩⟩⟩⟩⟩)), (bx BK258.out), (bx BK259.out), (bx BK286.out), (bx BK298.out), (bx BK313.out), (bx BK362.out), GW362.out, GE362.out, NB258_362.out, NB362_258.out, NB259_362.out, NB362_259.out, NB286_362.out, NB362_286.out, NB298_362.out, NB362_298.out, NB313_362.out, NB362_313.out, (be w)⟩)
     ·
      skip
      refine box_step ?hg (N := 14) ?hd (cs := #[.slice none 0 0, .slice none 0 0, .slice none 0 0, .int .i64 0, .int .i64 0]) (t := 34) ?hr ?_; (case hd => rfl); (case hg => rfl); (case hr => first | (go_simp; done) | (go_simp; rfl))
      intro gb362 hg w147 hbox hb
      replace HO_287000 := As.mk (Kd.R_below (by (with_reducible repeat (first | apply Kd.R_alloc | apply Kd.R_drewN | apply Kd.R_drew)); exact HO_287000.out) hb)
      replace HO_287001 := As.mk (Kd.R_below (by (with_reducible repeat (first | apply Kd.R_alloc | apply Kd.R_drewN | apply Kd.R_drew)); exact HO_287001.out) hb)
      replace HO_287002 := As.mk (Kd.R_below (by (with_reducible repeat (first | apply Kd.R_alloc | apply Kd.R_drewN | apply Kd.R_drew)); exact HO_287002.out) hb)
      replace HO_299000 := As.mk (Kd.R_below (by (with_reducible repeat (first | apply Kd.R_alloc | apply Kd.R_drewN | apply Kd.R_drew)); exact HO_299000.out) hb)
      replace HO_299001 := As.mk (Kd.R_below (by (with_reducible repeat (first | apply Kd.R_alloc | apply Kd.R_drewN | apply Kd.R_drew)); exact HO_299001.out) hb)
      replace HO_299002 := As.mk (Kd.R_below (by (with_reducible repeat (first | apply Kd.R_alloc | apply Kd.R_drewN | apply Kd.R_drew)); exact HO_299002.out) hb)
      replace HO_314000 := As.mk (Kd.R_below (by (with_reducible repeat (first | apply Kd.R_alloc | apply Kd.R_drewN | apply Kd.R_drew)); exact HO_314000.out) hb)
      replace HO_314001 := As.mk (Kd.R_below (by (with_reducible repeat (first | apply Kd.R_alloc | apply Kd.R_drewN | apply Kd.R_drew)); exact HO_314001.out) hb)
      replace HO_314002 := As.mk (Kd.R_below (by (with_reducible repeat (first | apply Kd.R_alloc | apply Kd.R_drewN | apply Kd.R_drew)); exact HO_314002.out) hb)
      have BK362 := As.mk (hbox)
      have GW362 := As.mk (gs w hg)
      have GE362 := As.mk (gs w hg)
      replace HB := As.mk (below_step (be w) hb)
      have NB258_362 := As.mk (nl hg (bx BK258.out))
      have NB362_258 := As.mk (ng hg (bx BK258.out))
      replace BK258 := As.mk (blk_below (bx BK258.out) hb)
      have NB259_362 := As.mk (nl hg (bx BK259.out))
      have NB362_259 := As.mk (ng hg (bx BK259.out))
      replace BK259 := As.mk (blk_below (bx BK259.out) hb)
      have NB286_362 := As.mk (nl hg (bx BK286.out))
      have NB362_286 := As.mk (ng hg (bx BK286.out))
      replace BK286 := As.mk (blk_below (bx BK286.out) hb)
      have NB298_362 := As.mk (nl hg (bx BK298.out))
      have NB362_298 := As.mk (ng hg (bx BK298.out))
      replace BK298 := As.mk (blk_below (bx BK298.out) hb)
      have NB313_362 := As.mk (nl hg (bx BK313.out))
      have NB362_313 := As.mk (ng hg (bx BK313.out))
      replace BK313 := As.mk (blk_below (bx BK313.out) hb)
      clear hb hbox hg
      refine hK.out _ _ ⟨(blk_cell BK258.out 0).trans rfl, (blk_cell BK258.out 1).trans rfl, (blk_cell BK258.out 2).trans rfl, (blk_cell BK258.out 3).trans rfl, (blk_cell BK258.out 4).trans rfl, (blk_cell BK259.out 0).trans rfl, (blk_cell BK259.out 1).trans rfl⟩ (fun hHeld => ?_)
      clear hK K
      refine norm_ (a' := ?_) ?_ ?_
      rotate_left
      ·
       show Act.put _ (some 14) _ = _
       simp only [pk, i64_w, i32_w]
       rfl
      refine one_ (i := 1) (N := some 81) #[I, I, I, O, O, O, O, O, I, O, O] rfl rfl (one_of HT_.out (by kernel_rfl)) (by decide) (fun K hK => ?_)
      refine goes_ Try.func25 (by kernel_rfl) rfl #[.agg #[.slice A0_0 l0_0.length c0_0, .slice A0_1 l0_1.length c0_1, .slice A0_2 l0_2.length c0_2, .int .i64 a0_3, .int .i64 a0_4]] (by rfl) rfl rfl (by (try simp only [lm]); first | done | rfl | (simp only [List.length_drop, List.length_take]; rfl)) ?_
      with_reducible refine (laws_toMemory.calls kj139 _ _ l0_0 _ _ l0_1 _ _ l0_2 a0_3 a0_4 t337 t340 t343 t346 t347 _ ?side1 ?side2 ?side3 ?side4 ?side5 ?side6 A142.out).mono ?_
      (case side1 => exact Kd.C_below HR0_0.out (be w))
      (case side2 => exact HC0_0.out)
      (case side3 => exact Kd.C_below HR0_1.out (be w))
      (case side4 => exact HC0_1.out)
      (case side5 => exact Kd.C_below HR0_2.out (be w))
      (case side6 => exact HC0_2.out)
      rintro e w148 ⟨v338, v341, v344, rfl, ho0, ho1, ho2, hb⟩
      refine ⟨_, rfl, ?_⟩
      have HO339 := As.mk (Kd.R_lower (Kd.R_new' (Kd.R_new' (Kd.R_new' ho0 (Kd.R_lt (by (with_reducible repeat (first | apply Kd.R_alloc | apply Kd.R_drewN | apply Kd.R_drew)); exact HO_287000.out))) (Kd.R_lt (by (with_reducible repeat (first | apply Kd.R_alloc | apply Kd.R_drewN | apply Kd.R_drew)); exact HO_299000.out))) (Kd.R_lt (by (with_reducible repeat (first | apply Kd.R_alloc | apply Kd.R_drewN | apply Kd.R_drew)); exact HO_314000.out))) (below_size (be w)))
      replace HO_287000 := As.mk (Kd.R_elder' (by (with_reducible repeat (first | apply Kd.R_alloc | apply Kd.R_drewN | apply Kd.R_drew)); exact HO_287000.out) (Kd.R_base ho0) hb)
      replace HO_299000 := As.mk (Kd.R_elder' (by (with_reducible repeat (first | apply Kd.R_alloc | apply Kd.R_drewN | apply Kd.R_drew)); exact HO_299000.out) (Kd.R_base ho0) hb)
      replace HO_314000 := As.mk (Kd.R_elder' (by (with_reducible repeat (first | apply Kd.R_alloc | apply Kd.R_drewN | apply Kd.R_drew)); exact HO_314000.out) (Kd.R_base ho0) hb)
      have HO342 := As.mk (Kd.R_lower (Kd.R_new' (Kd.R_new' (Kd.R_new' (Kd.R_new' (Kd.R_new' (Kd.R_new' ho1 (Kd.R_lt (by (with_reducible repeat (first | apply Kd.R_alloc | apply Kd.R_drewN | apply Kd.R_drew)); exact HO_287001.out))) (Kd.R_lt (by (with_reducible repeat (first | apply Kd.R_alloc | apply Kd.R_drewN | apply Kd.R_drew)); exact HO_287002.out))) (Kd.R_lt (by (with_reducible repeat (first | apply Kd.R_alloc | apply Kd.R_drewN | apply Kd.R_drew)); exact HO_299001.out))) (Kd.R_lt (by (with_reducible repeat (first | apply Kd.R_alloc | apply Kd.R_drewN | apply Kd.R_drew)); exact HO_299002.out))) (Kd.R_lt (by (with_reducible repeat (first | apply Kd.R_alloc | apply Kd.R_drewN | apply Kd.R_drew)); exact HO_314001.out))) (Kd.R_lt (by (with_reducible repeat (first | apply Kd.R_alloc | apply Kd.R_drewN | apply Kd.R_drew)); exact HO_314002.out))) (below_size (be w)))
      have HO345 := As.mk (Kd.R_lower (Kd.R_new' (Kd.R_new' (Kd.R_new' (Kd.R_new' (Kd.R_new' (Kd.R_new' ho2 (Kd.R_lt (by (with_reducible repeat (first | apply Kd.R_alloc | apply Kd.R_drewN | apply Kd.R_drew)); exact HO_287001.out))) (Kd.R_lt (by (with_reducible repeat (first | apply Kd.R_alloc | apply Kd.R_drewN | apply Kd.R_drew)); exact HO_287002.out))) (Kd.R_lt (by (with_reducible repeat (first | apply Kd.R_alloc | apply Kd.R_drewN | apply Kd.R_drew)); exact HO_299001.out))) (Kd.R_lt (by (with_reducible repeat (first | apply Kd.R_alloc | apply Kd.R_drewN | apply Kd.R_drew)); exact HO_299002.out))) (Kd.R_lt (by (with_reducible repeat (first | apply Kd.R_alloc | apply Kd.R_drewN | apply Kd.R_drew)); exact HO_314001.out))) (Kd.R_lt (by (with_reducible repeat (first | apply Kd.R_alloc | apply Kd.R_drewN | apply Kd.R_drew)); exact HO_314002.out))) (below_size (be w)))
      replace HO_287001 := As.mk (Kd.R_mono (Kd.R_told (Kd.R_told (Kd.R_old (by (with_reducible repeat (first | apply Kd.R_alloc | apply Kd.R_drewN | apply Kd.R_drew)); exact HO_287001.out) hb) (Kd.R_base ho1)) (Kd.R_base ho2)) (fun _ h_ => h_.1))
      replace HO_287002 := As.mk (Kd.R_mono (Kd.R_told (Kd.R_told (Kd.R_old (by (with_reducible repeat (first | apply Kd.R_alloc | apply Kd.R_drewN | apply Kd.R_drew)); exact HO_287002.out) hb) (Kd.R_base ho1)) (Kd.R_base ho2)) (fun _ h_ => h_.1))
      replace HO_299001 := As.mk (Kd.R_mono (Kd.R_told (Kd.R_told (Kd.R_old (by (with_reducible repeat (first | apply Kd.R_alloc | apply Kd.R_drewN | apply Kd.R_drew)); exact HO_299001.out) hb) (Kd.R_base ho1)) (Kd.R_base ho2)) (fun _ h_ => h_.1))
      replace HO_299002 := As.mk (Kd.R_mono (Kd.R_told (Kd.R_told (Kd.R_old (by (with_reducible repeat (first | apply Kd.R_alloc | apply Kd.R_drewN | apply Kd.R_drew)); exact HO_299002.out) hb) (Kd.R_base ho1)) (Kd.R_base ho2)) (fun _ h_ => h_.1))
      replace HO_314001 := As.mk (Kd.R_mono (Kd.R_told (Kd.R_told (Kd.R_old (by (with_reducible repeat (first | apply Kd.R_alloc | apply Kd.R_drewN | apply Kd.R_drew)); exact HO_314001.out) hb) (Kd.R_base ho1)) (Kd.R_base ho2)) (fun _ h_ => h_.1))
      replace HO_314002 := As.mk (Kd.R_mono (Kd.R_told (Kd.R_told (Kd.R_old (by (with_reducible repeat (first | apply Kd.R_alloc | apply Kd.R_drewN | apply Kd.R_drew)); exact HO_314002.out) hb) (Kd.R_base ho1)) (Kd.R_base ho2)) (fun _ h_ => h_.1))
      replace BK258 := As.mk (blk_below (bx BK258.out) hb)
      replace BK259 := As.mk (blk_below (bx BK259.out) hb)
      replace BK286 := As.mk (blk_below (bx BK286.out) hb)
      replace BK298 := As.mk (blk_below (bx BK298.out) hb)
      replace BK313 := As.mk (blk_below (bx BK313.out) hb)
      replace BK362 := As.mk (blk_below (bx BK362.out) hb)
      replace HB := As.mk (below_step (be w) hb)
      (try clear hb)
      (try clear hb2)
      (try clear hk)
      (try clear hi)
      (try clear ho0)
      (try clear ho1)
      (try clear ho2)
      refine hK.out _ _ ⟨(blk_cell BK258.out 0).trans rfl, (blk_cell BK258.out 1).trans rfl, (blk_cell BK258.out 2).trans rfl, (blk_cell BK258.out 3).trans rfl, (blk_cell BK258.out 4).trans rfl, (blk_cell BK259.out 0).trans rfl, (blk_cell BK259.out 1).trans rfl⟩ (fun hHeld => ?_)
      clear hK K
      refine norm_ (a' := ?_) ?_ ?_
      rotate_left
      ·
       show Act.put _ (some 81) _ = _
       simp only [pk, i64_w, i32_w]
       rfl
      refine one_ (i := 3) (N := some 83) #[I, I, I, I, O, O, O, O, I, O, O] rfl rfl (one_of HT_.out (by kernel_rfl)) (by decide) (fun K hK => ?_)
      refine goes_ Try.func26 (by kernel_rfl) rfl #[.agg #[.int .i64 a1_0, .int .i64 a1_1]] (by rfl) rfl rfl (by (try simp only [lm]); first | done | rfl | (simp only [List.length_drop, List.length_take]; rfl)) ?_
      with_reducible refine (laws_toValue.calls a1_0 a1_1 t348 t349 _ A143.out).mono ?_
      rintro e w149 ⟨rfl, hb⟩
      refine ⟨_, rfl, ?_⟩
      replace HO_287000 := As.mk (Kd.R_below (by (with_reducible repeat (first | apply Kd.R_alloc | apply Kd.R_drewN | apply Kd.R_drew)); exact HO_287000.out) hb)
      replace HO_287001 := As.mk (Kd.R_below (by (with_reducible repeat (first | apply Kd.R_alloc | apply Kd.R_drewN | apply Kd.R_drew)); exact HO_287001.out) hb)
      replace HO_287002 := As.mk (Kd.R_below (by (with_reducible repeat (first | apply Kd.R_alloc | apply Kd.R_drewN | apply Kd.R_drew)); exact HO_287002.out) hb)
      replace HO_299000 := As.mk (Kd.R_below (by (with_reducible repeat (first | apply Kd.R_alloc | apply Kd.R_drewN | apply Kd.R_drew)); exact HO_299000.out) hb)
      replace HO_299001 := As.mk (Kd.R_below (by (with_reducible repeat (first | apply Kd.R_alloc | apply Kd.R_drewN | apply Kd.R_drew)); exact HO_299001.out) hb)
      replace HO_299002 := As.mk (Kd.R_below (by (with_reducible repeat (first | apply Kd.R_alloc | apply Kd.R_drewN | apply Kd.R_drew)); exact HO_299002.out) hb)
      replace HO_314000 := As.mk (Kd.R_below (by (with_reducible repeat (first | apply Kd.R_alloc | apply Kd.R_drewN | apply Kd.R_drew)); exact HO_314000.out) hb)
      replace HO_314001 := As.mk (Kd.R_below (by (with_reducible repeat (first | apply Kd.R_alloc | apply Kd.R_drewN | apply Kd.R_drew)); exact HO_314001.out) hb)
      replace HO_314002 := As.mk (Kd.R_below (by (with_reducible repeat (first | apply Kd.R_alloc | apply Kd.R_drewN | apply Kd.R_drew)); exact HO_314002.out) hb)
      replace HO339 := As.mk (Kd.R_below (by (with_reducible repeat (first | apply Kd.R_alloc | apply Kd.R_drewN | apply Kd.R_drew)); exact HO339.out) hb)
      replace HO342 := As.mk (Kd.R_below (by (with_reducible repeat (first | apply Kd.R_alloc | apply Kd.R_drewN | apply Kd.R_drew)); exact HO342.out) hb)
      replace HO345 := As.mk (Kd.R_below (by (with_reducible repeat (first | apply Kd.R_alloc | apply Kd.R_drewN | apply Kd.R_drew)); exact HO345.out) hb)
      replace BK258 := As.mk (blk_below (bx BK258.out) hb)
      replace BK259 := As.mk (blk_below (bx BK259.out) hb)
      replace BK286 := As.mk (blk_below (bx BK286.out) hb)
      replace BK298 := As.mk (blk_below (bx BK298.out) hb)
      replace BK313 := As.mk (blk_below (bx BK313.out) hb)
      replace BK362 := As.mk (blk_below (bx BK362.out) hb)
      replace HB := As.mk (below_step (be w) hb)
      (try clear hb)
      (try clear hb2)
      (try clear hk)
      (try clear hi)
      obtain ⟨Ao150, co150, eo150⟩ := Kd.R_slice HO339.out
      (first | subst eo150 | (injection eo150 with f1_ f2_ f3_; have f4_ := f1_.symm; have f5_ := f3_.symm; clear f1_ f2_ f3_; subst f4_; subst f5_))
      obtain ⟨Ao151, co151, eo151⟩ := Kd.R_slice HO342.out
      (first | subst eo151 | (injection eo151 with f1_ f2_ f3_; have f4_ := f1_.symm; have f5_ := f3_.symm; clear f1_ f2_ f3_; subst f4_; subst f5_))
      obtain ⟨Ao152, co152, eo152⟩ := Kd.R_slice HO345.out
      (first | subst eo152 | (injection eo152 with f1_ f2_ f3_; have f4_ := f1_.symm; have f5_ := f3_.symm; clear f1_ f2_ f3_; subst f4_; subst f5_))
      refine hK.out _ _ ⟨(blk_cell BK258.out 0).trans rfl, (blk_cell BK258.out 1).trans rfl, (blk_cell BK258.out 2).trans rfl, (blk_cell BK258.out 3).trans rfl, (blk_cell BK258.out 4).trans rfl, (blk_cell BK259.out 0).trans rfl, (blk_cell BK259.out 1).trans rfl⟩ (fun hHeld => ?_)
      clear hK K
      refine norm_ (a' := ?_) ?_ ?_
      rotate_left
      ·
       show Act.put _ (some 83) _ = _
       simp only [pk, i64_w, i32_w]
       rfl
      refine one_ (i := 4) (N := some 84) #[I, I, I, I, I, O, O, O, I, O, O] rfl rfl (one_of HT_.out (by kernel_rfl)) (by decide) (fun K hK => ?_)
      refine goes_ Try.func19 (by kernel_rfl) rfl #[.agg #[.slice Ao150 t337.length co150, .slice Ao151 t340.length co151, .slice Ao152 t343.length co152, .int .i64 t346, .int .i64 t347], .agg #[.int .i64 t348, .int .i64 t349]] (by rfl) rfl rfl (by (try simp only [lm]); first | done | rfl | (simp only [List.length_drop, List.length_take]; rfl)) ?_
      with_reducible refine (impl_Looked.calls _ _ t337 _ _ t340 _ _ t343 t346 t347 t348 t349 t350 t353 t356 t359 t360 t361 _ ?side1 ?side2 ?side3 ?side4 ?side5 ?side6 A144.out).mono ?_
      (case side1 => repeat (first | exact (Kd.R_reads' HO339.out).2.2 | (with_reducible refine Kd.C_alloc ?_ _) | (with_reducible refine Kd.C_drewN ?_ _) | (with_reducible refine Kd.C_drew ?_)))
      (case side2 => exact (Kd.R_reads' HO339.out).2.1)
      (case side3 => repeat (first | exact (Kd.R_reads' HO342.out).2.2 | (with_reducible refine Kd.C_alloc ?_ _) | (with_reducible refine Kd.C_drewN ?_ _) | (with_reducible refine Kd.C_drew ?_)))
      (case side4 => exact (Kd.R_reads' HO342.out).2.1)
      (case side5 => repeat (first | exact (Kd.R_reads' HO345.out).2.2 | (with_reducible refine Kd.C_alloc ?_ _) | (with_reducible refine Kd.C_drewN ?_ _) | (with_reducible refine Kd.C_drew ?_)))
      (case side6 => exact (Kd.R_reads' HO345.out).2.1)
      rintro e w153 ⟨v351, v354, v357, rfl, ho0, ho1, ho2, hb⟩
      refine ⟨_, rfl, ?_⟩
      have HO352 := As.mk (Kd.R_lower (Kd.R_new' (Kd.R_new' (Kd.R_new' (Kd.R_new' ho0 (Kd.R_lt (by (with_reducible repeat (first | apply Kd.R_alloc | apply Kd.R_drewN | apply Kd.R_drew)); exact HO_287000.out))) (Kd.R_lt (by (with_reducible repeat (first | apply Kd.R_alloc | apply Kd.R_drewN | apply Kd.R_drew)); exact HO_299000.out))) (Kd.R_lt (by (with_reducible repeat (first | apply Kd.R_alloc | apply Kd.R_drewN | apply Kd.R_drew)); exact HO_314000.out))) (Kd.R_lt (by (with_reducible repeat (first | apply Kd.R_alloc | apply Kd.R_drewN | apply Kd.R_drew)); exact HO339.out))) (below_size (be w)))
      replace HO_287000 := As.mk (Kd.R_elder' (by (with_reducible repeat (first | apply Kd.R_alloc | apply Kd.R_drewN | apply Kd.R_drew)); exact HO_287000.out) (Kd.R_base ho0) hb)
      replace HO_299000 := As.mk (Kd.R_elder' (by (with_reducible repeat (first | apply Kd.R_alloc | apply Kd.R_drewN | apply Kd.R_drew)); exact HO_299000.out) (Kd.R_base ho0) hb)
      replace HO_314000 := As.mk (Kd.R_elder' (by (with_reducible repeat (first | apply Kd.R_alloc | apply Kd.R_drewN | apply Kd.R_drew)); exact HO_314000.out) (Kd.R_base ho0) hb)
      replace HO339 := As.mk (Kd.R_elder' (by (with_reducible repeat (first | apply Kd.R_alloc | apply Kd.R_drewN | apply Kd.R_drew)); exact HO339.out) (Kd.R_base ho0) hb)
      have HO355 := As.mk (Kd.R_lower (Kd.R_new' (Kd.R_new' (Kd.R_new' (Kd.R_new' (Kd.R_new' (Kd.R_new' (Kd.R_new' (Kd.R_new' ho1 (Kd.R_lt (by (with_reducible repeat (first | apply Kd.R_alloc | apply Kd.R_drewN | apply Kd.R_drew)); exact HO_287001.out))) (Kd.R_lt (by (with_reducible repeat (first | apply Kd.R_alloc | apply Kd.R_drewN | apply Kd.R_drew)); exact HO_287002.out))) (Kd.R_lt (by (with_reducible repeat (first | apply Kd.R_alloc | apply Kd.R_drewN | apply Kd.R_drew)); exact HO_299001.out))) (Kd.R_lt (by (with_reducible repeat (first | apply Kd.R_alloc | apply Kd.R_drewN | apply Kd.R_drew)); exact HO_299002.out))) (Kd.R_lt (by (with_reducible repeat (first | apply Kd.R_alloc | apply Kd.R_drewN | apply Kd.R_drew)); exact HO_314001.out))) (Kd.R_lt (by (with_reducible repeat (first | apply Kd.R_alloc | apply Kd.R_drewN | apply Kd.R_drew)); exact HO_314002.out))) (Kd.R_lt (by (with_reducible repeat (first | apply Kd.R_alloc | apply Kd.R_drewN | apply Kd.R_drew)); exact HO342.out))) (Kd.R_lt (by (with_reducible repeat (first | apply Kd.R_alloc | apply Kd.R_drewN | apply Kd.R_drew)); exact HO345.out))) (below_size (be w)))
      have HO358 := As.mk (Kd.R_lower (Kd.R_new' (Kd.R_new' (Kd.R_new' (Kd.R_new' (Kd.R_new' (Kd.R_new' (Kd.R_new' (Kd.R_new' ho2 (Kd.R_lt (by (with_reducible repeat (first | apply Kd.R_alloc | apply Kd.R_drewN | apply Kd.R_drew)); exact HO_287001.out))) (Kd.R_lt (by (with_reducible repeat (first | apply Kd.R_alloc | apply Kd.R_drewN | apply Kd.R_drew)); exact HO_287002.out))) (Kd.R_lt (by (with_reducible repeat (first | apply Kd.R_alloc | apply Kd.R_drewN | apply Kd.R_drew)); exact HO_299001.out))) (Kd.R_lt (by (with_reducible repeat (first | apply Kd.R_alloc | apply Kd.R_drewN | apply Kd.R_drew)); exact HO_299002.out))) (Kd.R_lt (by (with_reducible repeat (first | apply Kd.R_alloc | apply Kd.R_drewN | apply Kd.R_drew)); exact HO_314001.out))) (Kd.R_lt (by (with_reducible repeat (first | apply Kd.R_alloc | apply Kd.R_drewN | apply Kd.R_drew)); exact HO_314002.out))) (Kd.R_lt (by (with_reducible repeat (first | apply Kd.R_alloc | apply Kd.R_drewN | apply Kd.R_drew)); exact HO342.out))) (Kd.R_lt (by (with_reducible repeat (first | apply Kd.R_alloc | apply Kd.R_drewN | apply Kd.R_drew)); exact HO345.out))) (below_size (be w)))
      replace HO_287001 := As.mk (Kd.R_mono (Kd.R_told (Kd.R_told (Kd.R_old (by (with_reducible repeat (first | apply Kd.R_alloc | apply Kd.R_drewN | apply Kd.R_drew)); exact HO_287001.out) hb) (Kd.R_base ho1)) (Kd.R_base ho2)) (fun _ h_ => h_.1))
      replace HO_287002 := As.mk (Kd.R_mono (Kd.R_told (Kd.R_told (Kd.R_old (by (with_reducible repeat (first | apply Kd.R_alloc | apply Kd.R_drewN | apply Kd.R_drew)); exact HO_287002.out) hb) (Kd.R_base ho1)) (Kd.R_base ho2)) (fun _ h_ => h_.1))
      replace HO_299001 := As.mk (Kd.R_mono (Kd.R_told (Kd.R_told (Kd.R_old (by (with_reducible repeat (first | apply Kd.R_alloc | apply Kd.R_drewN | apply Kd.R_drew)); exact HO_299001.out) hb) (Kd.R_base ho1)) (Kd.R_base ho2)) (fun _ h_ => h_.1))
      replace HO_299002 := As.mk (Kd.R_mono (Kd.R_told (Kd.R_told (Kd.R_old (by (with_reducible repeat (first | apply Kd.R_alloc | apply Kd.R_drewN | apply Kd.R_drew)); exact HO_299002.out) hb) (Kd.R_base ho1)) (Kd.R_base ho2)) (fun _ h_ => h_.1))
      replace HO_314001 := As.mk (Kd.R_mono (Kd.R_told (Kd.R_told (Kd.R_old (by (with_reducible repeat (first | apply Kd.R_alloc | apply Kd.R_drewN | apply Kd.R_drew)); exact HO_314001.out) hb) (Kd.R_base ho1)) (Kd.R_base ho2)) (fun _ h_ => h_.1))
      replace HO_314002 := As.mk (Kd.R_mono (Kd.R_told (Kd.R_told (Kd.R_old (by (with_reducible repeat (first | apply Kd.R_alloc | apply Kd.R_drewN | apply Kd.R_drew)); exact HO_314002.out) hb) (Kd.R_base ho1)) (Kd.R_base ho2)) (fun _ h_ => h_.1))
      replace HO342 := As.mk (Kd.R_mono (Kd.R_told (Kd.R_told (Kd.R_old (by (with_reducible repeat (first | apply Kd.R_alloc | apply Kd.R_drewN | apply Kd.R_drew)); exact HO342.out) hb) (Kd.R_base ho1)) (Kd.R_base ho2)) (fun _ h_ => h_.1))
      replace HO345 := As.mk (Kd.R_mono (Kd.R_told (Kd.R_told (Kd.R_old (by (with_reducible repeat (first | apply Kd.R_alloc | apply Kd.R_drewN | apply Kd.R_drew)); exact HO345.out) hb) (Kd.R_base ho1)) (Kd.R_base ho2)) (fun _ h_ => h_.1))
      replace BK258 := As.mk (blk_below (bx BK258.out) hb)
      replace BK259 := As.mk (blk_below (bx BK259.out) hb)
      replace BK286 := As.mk (blk_below (bx BK286.out) hb)
      replace BK298 := As.mk (blk_below (bx BK298.out) hb)
      replace BK313 := As.mk (blk_below (bx BK313.out) hb)
      replace BK362 := As.mk (blk_below (bx BK362.out) hb)
      replace HB := As.mk (below_step (be w) hb)
      (try clear hb)
      (try clear hb2)
      (try clear hk)
      (try clear hi)
      (try clear ho0)
      (try clear ho1)
      (try clear ho2)
      refine hK.out _ _ ⟨(blk_cell BK258.out 0).trans rfl, (blk_cell BK258.out 1).trans rfl, (blk_cell BK258.out 2).trans rfl, (blk_cell BK258.out 3).trans rfl, (blk_cell BK258.out 4).trans rfl, (blk_cell BK259.out 0).trans rfl, (blk_cell BK259.out 1).trans rfl⟩ (fun hHeld => ?_)
      clear hK K
      refine norm_ (a' := ?_) ?_ ?_
      rotate_left
      ·
       show Act.put _ (some 84) _ = _
       simp only [pk, i64_w, i32_w]
       rfl
      refine pure_ (i := 5) (N := some 79) (v := ?_) (a' := ?_) #[I, I, I, I, I, I, O, O, I, O, O] rfl rfl (any_of HT_.out (by kernel_rfl)) (fun _ _ _ h => h) (Or.inl ⟨by rfl, ?_⟩) ?_ ?_
      rotate_left
      ·
       intro w'
       go_simp
       with_reducible rfl
      rotate_left
      ·
       simp only [pk, i64_w, i32_w]
       rfl
      refine pure_ (i := 6) (N := some 85) (v := ?_) (a' := ?_) #[I, I, I, I, I, I, I, O, I, O, O] rfl rfl (any_of HT_.out (by kernel_rfl)) (fun _ _ _ h => h) (Or.inl ⟨by rfl, ?_⟩) ?_ ?_
      rotate_left
      ·
       intro w'
       go_simp
       with_reducible rfl
      rotate_left
      ·
       simp only [pk, i64_w, i32_w]
       rfl
      refine pure_ (i := 7) (N := some 86) (v := ?_) (a' := ?_) #[I, I, I, I, I, I, I, I, I, O, O] rfl rfl (any_of HT_.out (by kernel_rfl)) (fun _ _ _ h => h) (Or.inl ⟨by rfl, ?_⟩) ?_ ?_
      rotate_left
      ·
       intro w'
       go_simp
       with_reducible rfl
      rotate_left
      ·
       simp only [pk, i64_w, i32_w]
       rfl
      exact norm_ (by simp only [putAll, Act.put, List.setIfInBounds_toArray, List.set_cons_zero, List.set_cons_succ]) (hCont (.slice Ao150 t337.length co150, .slice Ao151 t340.length co151, .slice Ao152 t343.length co152, v351, v354, v357, gb362) _ ⟨hHeld, (by (with_reducible repeat (first | apply Kd.R_alloc | apply Kd.R_drewN | apply Kd.R_drew)); exact Kd.R_mono HO339.out (fun _ hk => ⟨hk.2, ⟨hk.1.1.1.2, ⟨hk.1.1.2, hk.1.2⟩⟩⟩)), (by (with_reducible repeat (first | apply Kd.R_alloc | apply Kd.R_drewN | apply Kd.R_drew)); exact Kd.R_mono HO342.out (fun _ hk => ⟨hk.1.1.1.1.1.1.1.1, ⟨hk.1.2, ⟨hk.2, ⟨hk.1.1.1.1.1.1.1.2, ⟨hk.1.1.1.1.1.1.2, ⟨hk.1.1.1.1.1.2, ⟨hk.1.1.1.1.2, ⟨hk.1.1.1.2, hk.1.1.2⟩⟩⟩⟩⟩⟩⟩⟩)), (by (with_reducible repeat (first | apply Kd.R_alloc | apply Kd.R_drewN | apply Kd.R_drew)); exact Kd.R_mono HO345.out (fun _ hk => ⟨hk.1.1.1.1.1.1.1.1, ⟨hk.1.2, ⟨hk.2, ⟨hk.1.1.1.1.1.1.1.2, ⟨hk.1.1.1.1.1.1.2, ⟨hk.1.1.1.1.1.2, ⟨hk.1.1.1.1.2, ⟨hk.1.1.1.2, hk.1.1.2⟩⟩⟩⟩⟩⟩⟩⟩)), (by (with_reducible repeat (first | apply Kd.R_alloc | apply Kd.R_drewN | apply Kd.R_drew)); exact Kd.R_mono HO352.out (fun _ hk => ⟨hk.2, ⟨hk.1.1.1.2, ⟨hk.1.1.2, hk.1.2⟩⟩⟩)), (by (with_reducible repeat (first | apply Kd.R_alloc | apply Kd.R_drewN | apply Kd.R_drew)); exact Kd.R_mono HO355.out (fun _ hk => ⟨hk.1.2, ⟨hk.2, ⟨hk.1.1.1.1.1.1.1.1, ⟨hk.1.1.1.1.1.1.1.2, ⟨hk.1.1.1.1.1.1.2, ⟨hk.1.1.1.1.1.2, ⟨hk.1.1.1.1.2, ⟨hk.1.1.1.2, hk.1.1.2⟩⟩⟩⟩⟩⟩⟩⟩)), (by (with_reducible repeat (first | apply Kd.R_alloc | apply Kd.R_drewN | apply Kd.R_drew)); exact Kd.R_mono HO358.out (fun _ hk => ⟨hk.1.2, ⟨hk.2, ⟨hk.1.1.1.1.1.1.1.1, ⟨hk.1.1.1.1.1.1.1.2, ⟨hk.1.1.1.1.1.1.2, ⟨hk.1.1.1.1.1.2, ⟨hk.1.1.1.1.2, ⟨hk.1.1.1.2, hk.1.1.2⟩⟩⟩⟩⟩⟩⟩⟩)), (by (with_reducible repeat (first | apply Kd.R_alloc | apply Kd.R_drewN | apply Kd.R_drew)); exact Kd.R_mono HO_287000.out (fun _ hk => ⟨hk.1.2, ⟨hk.2, ⟨hk.1.1.1, hk.1.1.2⟩⟩⟩)), (by (with_reducible repeat (first | apply Kd.R_alloc | apply Kd.R_drewN | apply Kd.R_drew)); exact Kd.R_mono HO_287001.out (fun _ hk => ⟨hk.1.1.1.2, ⟨hk.1.1.2, ⟨hk.1.2, ⟨hk.2, ⟨hk.1.1.1.1.1, ⟨hk.1.1.1.1.2.1, ⟨hk.1.1.1.1.2.2.1, ⟨hk.1.1.1.1.2.2.2.1, hk.1.1.1.1.2.2.2.2⟩⟩⟩⟩⟩⟩⟩⟩)), (by (with_reducible repeat (first | apply Kd.R_alloc | apply Kd.R_drewN | apply Kd.R_drew)); exact Kd.R_mono HO_287002.out (fun _ hk => ⟨hk.1.1.1.2, ⟨hk.1.1.2, ⟨hk.1.2, ⟨hk.2, ⟨hk.1.1.1.1.1, ⟨hk.1.1.1.1.2.1, ⟨hk.1.1.1.1.2.2.1, ⟨hk.1.1.1.1.2.2.2.1, hk.1.1.1.1.2.2.2.2⟩⟩⟩⟩⟩⟩⟩⟩)), (by (with_reducible repeat (first | apply Kd.R_alloc | apply Kd.R_drewN | apply Kd.R_drew)); exact Kd.R_mono HO_299000.out (fun _ hk => ⟨hk.1.2, ⟨hk.2, ⟨hk.1.1.1, hk.1.1.2⟩⟩⟩)), (by (with_reducible repeat (first | apply Kd.R_alloc | apply Kd.R_drewN | apply Kd.R_drew)); exact Kd.R_mono HO_299001.out (fun _ hk => ⟨hk.1.1.1.2, ⟨hk.1.1.2, ⟨hk.1.2, ⟨hk.2, ⟨hk.1.1.1.1.1, ⟨hk.1.1.1.1.2.1, ⟨hk.1.1.1.1.2.2.1, ⟨hk.1.1.1.1.2.2.2.1, hk.1.1.1.1.2.2.2.2⟩⟩⟩⟩⟩⟩⟩⟩)), (by (with_reducible repeat (first | apply Kd.R_alloc | apply Kd.R_drewN | apply Kd.R_drew)); exact Kd.R_mono HO_299002.out (fun _ hk => ⟨hk.1.1.1.2, ⟨hk.1.1.2, ⟨hk.1.2, ⟨hk.2, ⟨hk.1.1.1.1.1, ⟨hk.1.1.1.1.2.1, ⟨hk.1.1.1.1.2.2.1, ⟨hk.1.1.1.1.2.2.2.1, hk.1.1.1.1.2.2.2.2⟩⟩⟩⟩⟩⟩⟩⟩)), (by (with_reducible repeat (first | apply Kd.R_alloc | apply Kd.R_drewN | apply Kd.R_drew)); exact Kd.R_mono HO_314000.out (fun _ hk => ⟨hk.1.2, ⟨hk.2, ⟨hk.1.1.1, hk.1.1.2⟩⟩⟩)), (by (with_reducible repeat (first | apply Kd.R_alloc | apply Kd.R_drewN | apply Kd.R_drew)); exact Kd.R_mono HO_314001.out (fun _ hk => ⟨hk.1.1.1.2, ⟨hk.1.1.2, ⟨hk.1.2, ⟨hk.2, ⟨hk.1.1.1.1.1, ⟨hk.1.1.1.1.2.1, ⟨hk.1.1.1.1.2.2.1, ⟨hk.1.1.1.1.2.2.2.1, hk.1.1.1.1.2.2.2.2⟩⟩⟩⟩⟩⟩⟩⟩)), (by (with_reducible repeat (first | apply Kd.R_alloc | apply Kd.R_drewN | apply Kd.R_drew)); exact Kd.R_mono HO_314002.out (fun _ hk => ⟨hk.1.1.1.2, ⟨hk.1.1.2, ⟨hk.1.2, ⟨hk.2, ⟨hk.1.1.1.1.1, ⟨hk.1.1.1.1.2.1, ⟨hk.1.1.1.1.2.2.1, ⟨hk.1.1.1.1.2.2.2.1, hk.1.1.1.1.2.2.2.2⟩⟩⟩⟩⟩⟩⟩⟩)), (bx BK258.out), (bx BK259.out), (bx BK286.out), (bx BK298.out), (bx BK313.out), (bx BK362.out), GW362.out, GE362.out, NB258_362.out, NB362_258.out, NB259_362.out, NB362_259.out, NB286_362.out, NB362_286.out, NB298_362.out, NB362_298.out, NB313_362.out, NB362_313.out, (be w)⟩)
    rintro ⟨v338, v341, v344, v351, v354, v357, gb362⟩ w154 ⟨hS_, h0_, h1_, h2_, h3_, h4_, h5_, h6_, h7_, h8_, h9_, h10_, h11_, h12_, h13_, h14_, h15_, h16_, h17_, h18_, h19_, h20_, h21_, h22_, h23_, h24_, h25_, h26_, h27_, h28_, h29_, h30_, h31_, h32_, h33_⟩
    have n0_ : As (Kd.R k93 93 w154 w.heap.size (fun k_ => some k_ ≠ (v351 : Value).ownBlock ∧ some k_ ≠ (.slice Ao27 t274.length co27 : Value).ownBlock ∧ some k_ ≠ (.slice Ao40 t328.length co40 : Value).ownBlock ∧ some k_ ≠ (.slice Ao53 t333.length co53 : Value).ownBlock) v338 t337) := ⟨h0_⟩
    have n1_ : As (Kd.R (Kd.int .i64) 3 w154 w.heap.size (fun k_ => some k_ ≠ (v344 : Value).ownBlock ∧ some k_ ≠ (v354 : Value).ownBlock ∧ some k_ ≠ (v357 : Value).ownBlock ∧ some k_ ≠ (.slice Ao29 t277.length co29 : Value).ownBlock ∧ some k_ ≠ (.slice Ao31 t280.length co31 : Value).ownBlock ∧ some k_ ≠ (.slice Ao45 t329.length co45 : Value).ownBlock ∧ some k_ ≠ (.slice Ao46 t330.length co46 : Value).ownBlock ∧ some k_ ≠ (.slice Ao55 t334.length co55 : Value).ownBlock ∧ some k_ ≠ (.slice Ao57 t335.length co57 : Value).ownBlock) v341 t340) := ⟨h1_⟩
    have n2_ : As (Kd.R (Kd.int .i64) 3 w154 w.heap.size (fun k_ => some k_ ≠ (v341 : Value).ownBlock ∧ some k_ ≠ (v354 : Value).ownBlock ∧ some k_ ≠ (v357 : Value).ownBlock ∧ some k_ ≠ (.slice Ao29 t277.length co29 : Value).ownBlock ∧ some k_ ≠ (.slice Ao31 t280.length co31 : Value).ownBlock ∧ some k_ ≠ (.slice Ao45 t329.length co45 : Value).ownBlock ∧ some k_ ≠ (.slice Ao46 t330.length co46 : Value).ownBlock ∧ some k_ ≠ (.slice Ao55 t334.length co55 : Value).ownBlock ∧ some k_ ≠ (.slice Ao57 t335.length co57 : Value).ownBlock) v344 t343) := ⟨h2_⟩
    have n3_ : As (Kd.R k93 93 w154 w.heap.size (fun k_ => some k_ ≠ (v338 : Value).ownBlock ∧ some k_ ≠ (.slice Ao27 t274.length co27 : Value).ownBlock ∧ some k_ ≠ (.slice Ao40 t328.length co40 : Value).ownBlock ∧ some k_ ≠ (.slice Ao53 t333.length co53 : Value).ownBlock) v351 t350) := ⟨h3_⟩
    have n4_ : As (Kd.R (Kd.int .i64) 3 w154 w.heap.size (fun k_ => some k_ ≠ (v341 : Value).ownBlock ∧ some k_ ≠ (v344 : Value).ownBlock ∧ some k_ ≠ (v357 : Value).ownBlock ∧ some k_ ≠ (.slice Ao29 t277.length co29 : Value).ownBlock ∧ some k_ ≠ (.slice Ao31 t280.length co31 : Value).ownBlock ∧ some k_ ≠ (.slice Ao45 t329.length co45 : Value).ownBlock ∧ some k_ ≠ (.slice Ao46 t330.length co46 : Value).ownBlock ∧ some k_ ≠ (.slice Ao55 t334.length co55 : Value).ownBlock ∧ some k_ ≠ (.slice Ao57 t335.length co57 : Value).ownBlock) v354 t353) := ⟨h4_⟩
    have n5_ : As (Kd.R (Kd.int .i64) 3 w154 w.heap.size (fun k_ => some k_ ≠ (v341 : Value).ownBlock ∧ some k_ ≠ (v344 : Value).ownBlock ∧ some k_ ≠ (v354 : Value).ownBlock ∧ some k_ ≠ (.slice Ao29 t277.length co29 : Value).ownBlock ∧ some k_ ≠ (.slice Ao31 t280.length co31 : Value).ownBlock ∧ some k_ ≠ (.slice Ao45 t329.length co45 : Value).ownBlock ∧ some k_ ≠ (.slice Ao46 t330.length co46 : Value).ownBlock ∧ some k_ ≠ (.slice Ao55 t334.length co55 : Value).ownBlock ∧ some k_ ≠ (.slice Ao57 t335.length co57 : Value).ownBlock) v357 t356) := ⟨h5_⟩
    have n6_ : As (Kd.R k93 93 w154 w.heap.size (fun k_ => some k_ ≠ (v338 : Value).ownBlock ∧ some k_ ≠ (v351 : Value).ownBlock ∧ some k_ ≠ (.slice Ao40 t328.length co40 : Value).ownBlock ∧ some k_ ≠ (.slice Ao53 t333.length co53 : Value).ownBlock) (.slice Ao27 t274.length co27) t274) := ⟨h6_⟩
    have n7_ : As (Kd.R (Kd.int .i64) 3 w154 w.heap.size (fun k_ => some k_ ≠ (v341 : Value).ownBlock ∧ some k_ ≠ (v344 : Value).ownBlock ∧ some k_ ≠ (v354 : Value).ownBlock ∧ some k_ ≠ (v357 : Value).ownBlock ∧ some k_ ≠ (.slice Ao31 t280.length co31 : Value).ownBlock ∧ some k_ ≠ (.slice Ao45 t329.length co45 : Value).ownBlock ∧ some k_ ≠ (.slice Ao46 t330.length co46 : Value).ownBlock ∧ some k_ ≠ (.slice Ao55 t334.length co55 : Value).ownBlock ∧ some k_ ≠ (.slice Ao57 t335.length co57 : Value).ownBlock) (.slice Ao29 t277.length co29) t277) := ⟨h7_⟩
    have n8_ : As (Kd.R (Kd.int .i64) 3 w154 w.heap.size (fun k_ => some k_ ≠ (v341 : Value).ownBlock ∧ some k_ ≠ (v344 : Value).ownBlock ∧ some k_ ≠ (v354 : Value).ownBlock ∧ some k_ ≠ (v357 : Value).ownBlock ∧ some k_ ≠ (.slice Ao29 t277.length co29 : Value).ownBlock ∧ some k_ ≠ (.slice Ao45 t329.length co45 : Value).ownBlock ∧ some k_ ≠ (.slice Ao46 t330.length co46 : Value).ownBlock ∧ some k_ ≠ (.slice Ao55 t334.length co55 : Value).ownBlock ∧ some k_ ≠ (.slice Ao57 t335.length co57 : Value).ownBlock) (.slice Ao31 t280.length co31) t280) := ⟨h8_⟩
    have n9_ : As (Kd.R k93 93 w154 w.heap.size (fun k_ => some k_ ≠ (v338 : Value).ownBlock ∧ some k_ ≠ (v351 : Value).ownBlock ∧ some k_ ≠ (.slice Ao27 t274.length co27 : Value).ownBlock ∧ some k_ ≠ (.slice Ao53 t333.length co53 : Value).ownBlock) (.slice Ao40 t328.length co40) t328) := ⟨h9_⟩
    have n10_ : As (Kd.R (Kd.int .i64) 3 w154 w.heap.size (fun k_ => some k_ ≠ (v341 : Value).ownBlock ∧ some k_ ≠ (v344 : Value).ownBlock ∧ some k_ ≠ (v354 : Value).ownBlock ∧ some k_ ≠ (v357 : Value).ownBlock ∧ some k_ ≠ (.slice Ao29 t277.length co29 : Value).ownBlock ∧ some k_ ≠ (.slice Ao31 t280.length co31 : Value).ownBlock ∧ some k_ ≠ (.slice Ao46 t330.length co46 : Value).ownBlock ∧ some k_ ≠ (.slice Ao55 t334.length co55 : Value).ownBlock ∧ some k_ ≠ (.slice Ao57 t335.length co57 : Value).ownBlock) (.slice Ao45 t329.length co45) t329) := ⟨h10_⟩
    have n11_ : As (Kd.R (Kd.int .i64) 3 w154 w.heap.size (fun k_ => some k_ ≠ (v341 : Value).ownBlock ∧ some k_ ≠ (v344 : Value).ownBlock ∧ some k_ ≠ (v354 : Value).ownBlock ∧ some k_ ≠ (v357 : Value).ownBlock ∧ some k_ ≠ (.slice Ao29 t277.length co29 : Value).ownBlock ∧ some k_ ≠ (.slice Ao31 t280.length co31 : Value).ownBlock ∧ some k_ ≠ (.slice Ao45 t329.length co45 : Value).ownBlock ∧ some k_ ≠ (.slice Ao55 t334.length co55 : Value).ownBlock ∧ some k_ ≠ (.slice Ao57 t335.length co57 : Value).ownBlock) (.slice Ao46 t330.length co46) t330) := ⟨h11_⟩
    have n12_ : As (Kd.R k93 93 w154 w.heap.size (fun k_ => some k_ ≠ (v338 : Value).ownBlock ∧ some k_ ≠ (v351 : Value).ownBlock ∧ some k_ ≠ (.slice Ao27 t274.length co27 : Value).ownBlock ∧ some k_ ≠ (.slice Ao40 t328.length co40 : Value).ownBlock) (.slice Ao53 t333.length co53) t333) := ⟨h12_⟩
    have n13_ : As (Kd.R (Kd.int .i64) 3 w154 w.heap.size (fun k_ => some k_ ≠ (v341 : Value).ownBlock ∧ some k_ ≠ (v344 : Value).ownBlock ∧ some k_ ≠ (v354 : Value).ownBlock ∧ some k_ ≠ (v357 : Value).ownBlock ∧ some k_ ≠ (.slice Ao29 t277.length co29 : Value).ownBlock ∧ some k_ ≠ (.slice Ao31 t280.length co31 : Value).ownBlock ∧ some k_ ≠ (.slice Ao45 t329.length co45 : Value).ownBlock ∧ some k_ ≠ (.slice Ao46 t330.length co46 : Value).ownBlock ∧ some k_ ≠ (.slice Ao57 t335.length co57 : Value).ownBlock) (.slice Ao55 t334.length co55) t334) := ⟨h13_⟩
    have n14_ : As (Kd.R (Kd.int .i64) 3 w154 w.heap.size (fun k_ => some k_ ≠ (v341 : Value).ownBlock ∧ some k_ ≠ (v344 : Value).ownBlock ∧ some k_ ≠ (v354 : Value).ownBlock ∧ some k_ ≠ (v357 : Value).ownBlock ∧ some k_ ≠ (.slice Ao29 t277.length co29 : Value).ownBlock ∧ some k_ ≠ (.slice Ao31 t280.length co31 : Value).ownBlock ∧ some k_ ≠ (.slice Ao45 t329.length co45 : Value).ownBlock ∧ some k_ ≠ (.slice Ao46 t330.length co46 : Value).ownBlock ∧ some k_ ≠ (.slice Ao55 t334.length co55 : Value).ownBlock) (.slice Ao57 t335.length co57) t335) := ⟨h14_⟩
    have n15_ : As (w154.heap[gb258]? = some (.cells #[.slice A0_0 l0_0.length c0_0, .slice A0_1 l0_1.length c0_1, .slice A0_2 l0_2.length c0_2, .int .i64 a0_3, .int .i64 a0_4] 47 (0, 0))) := ⟨h15_⟩
    have n16_ : As (w154.heap[gb259]? = some (.cells #[.int .i64 a1_0, .int .i64 a1_1] 48 (0, 0))) := ⟨h16_⟩
    have n17_ : As (w154.heap[gb286]? = some (.cells #[.slice Ao27 t274.length co27, .slice Ao29 t277.length co29, .slice Ao31 t280.length co31, .int .i64 t283, .int .i64 t284] 34 (0, 0))) := ⟨h17_⟩
    have n18_ : As (w154.heap[gb298]? = some (.cells #[.slice Ao40 t328.length co40, .slice Ao45 t329.length co45, .slice Ao46 t330.length co46, .int .i64 t296, .int .i64 t297] 34 (0, 0))) := ⟨h18_⟩
    have n19_ : As (w154.heap[gb313]? = some (.cells #[.slice Ao53 t333.length co53, .slice Ao55 t334.length co55, .slice Ao57 t335.length co57, .int .i64 t310, .int .i64 t311] 34 (0, 0))) := ⟨h19_⟩
    have n20_ : As (w154.heap[gb362]? = some (.cells #[.slice none 0 0, .slice none 0 0, .slice none 0 0, .int .i64 0, .int .i64 0] 34 (0, 0))) := ⟨h20_⟩
    have n21_ : As (w.heap.size ≤ gb362) := ⟨h21_⟩
    have n22_ : As (w.heap.size ≤ gb362) := ⟨h22_⟩
    have n23_ : As (gb258 ≠ gb362) := ⟨h23_⟩
    have n24_ : As (gb362 ≠ gb258) := ⟨h24_⟩
    have n25_ : As (gb259 ≠ gb362) := ⟨h25_⟩
    have n26_ : As (gb362 ≠ gb259) := ⟨h26_⟩
    have n27_ : As (gb286 ≠ gb362) := ⟨h27_⟩
    have n28_ : As (gb362 ≠ gb286) := ⟨h28_⟩
    have n29_ : As (gb298 ≠ gb362) := ⟨h29_⟩
    have n30_ : As (gb362 ≠ gb298) := ⟨h30_⟩
    have n31_ : As (gb313 ≠ gb362) := ⟨h31_⟩
    have n32_ : As (gb362 ≠ gb313) := ⟨h32_⟩
    have n33_ : As (Below w.heap.size w w154) := ⟨h33_⟩
    clear HO_287000
    clear HO_287001
    clear HO_287002
    clear HO_299000
    clear HO_299001
    clear HO_299002
    clear HO_314000
    clear HO_314001
    clear HO_314002
    clear BK258
    clear BK259
    clear BK286
    clear BK298
    clear BK313
    clear HB
    clear h0_ h1_ h2_ h3_ h4_ h5_ h6_ h7_ h8_ h9_ h10_ h11_ h12_ h13_ h14_ h15_ h16_ h17_ h18_ h19_ h20_ h21_ h22_ h23_ h24_ h25_ h26_ h27_ h28_ h29_ h30_ h31_ h32_ h33_
    have HO339 := n0_
    have HO342 := n1_
    have HO345 := n2_
    have HO352 := n3_
    have HO355 := n4_
    have HO358 := n5_
    have HO_287000 := n6_
    have HO_287001 := n7_
    have HO_287002 := n8_
    have HO_299000 := n9_
    have HO_299001 := n10_
    have HO_299002 := n11_
    have HO_314000 := n12_
    have HO_314001 := n13_
    have HO_314002 := n14_
    have BK258 := n15_
    have BK259 := n16_
    have BK286 := n17_
    have BK298 := n18_
    have BK313 := n19_
    have BK362 := n20_
    have GW362 := n21_
    have GE362 := n22_
    have NB258_362 := n23_
    have NB362_258 := n24_
    have NB259_362 := n25_
    have NB362_259 := n26_
    have NB286_362 := n27_
    have NB362_286 := n28_
    have NB298_362 := n29_
    have NB362_298 := n30_
    have NB313_362 := n31_
    have NB362_313 := n32_
    have HB := n33_
    clear n0_ n1_ n2_ n3_ n4_ n5_ n6_ n7_ n8_ n9_ n10_ n11_ n12_ n13_ n14_ n15_ n16_ n17_ n18_ n19_ n20_ n21_ n22_ n23_ n24_ n25_ n26_ n27_ n28_ n29_ n30_ n31_ n32_ n33_
    have hHeld : w154.cell? ⟨gb258, 0, none⟩ = some (.slice A0_0 l0_0.length c0_0) ∧ w154.cell? ⟨gb258, 1, none⟩ = some (.slice A0_1 l0_1.length c0_1) ∧ w154.cell? ⟨gb258, 2, none⟩ = some (.slice A0_2 l0_2.length c0_2) ∧ w154.cell? ⟨gb258, 3, none⟩ = some (.int .i64 a0_3) ∧ w154.cell? ⟨gb258, 4, none⟩ = some (.int .i64 a0_4) ∧ w154.cell? ⟨gb259, 0, none⟩ = some (.int .i64 a1_0) ∧ w154.cell? ⟨gb259, 1, none⟩ = some (.int .i64 a1_1) := hS_
    obtain ⟨Ao155, co155, eo155⟩ := Kd.R_slice HO352.out
    (first | subst eo155 | (injection eo155 with f1_ f2_ f3_; have f4_ := f1_.symm; have f5_ := f3_.symm; clear f1_ f2_ f3_; subst f4_; subst f5_))
    obtain ⟨Ao157, co157, eo157⟩ := Kd.R_slice HO355.out
    (first | subst eo157 | (injection eo157 with f1_ f2_ f3_; have f4_ := f1_.symm; have f5_ := f3_.symm; clear f1_ f2_ f3_; subst f4_; subst f5_))
    obtain ⟨Ao159, co159, eo159⟩ := Kd.R_slice HO358.out
    (first | subst eo159 | (injection eo159 with f1_ f2_ f3_; have f4_ := f1_.symm; have f5_ := f3_.symm; clear f1_ f2_ f3_; subst f4_; subst f5_))
    refine norm_ (a' := ?_) ?_ ?_
    rotate_left
    ·
     simp only [putAll, Act.put, List.setIfInBounds_toArray, List.set_cons_zero, List.set_cons_succ]
     rfl
    refine one_ (i := 9) (N := none) #[I, I, I, I, I, I, I, I, I, I, O] rfl rfl (one_of HT_.out (by kernel_rfl)) (by decide) (fun K hK => ?_)
    have hs156 : w154.cell? ⟨gb362, 0, none⟩ = some (.slice none 0 0) := (blk_cell BK362.out 0).trans rfl
    have hfs156 := blk_frozen BK362.out 0
    have hns156_0 := NB258_362.out
    have hns156_1 := NB259_362.out
    have hns156_2 := NB286_362.out
    have hns156_3 := NB298_362.out
    have hns156_4 := NB313_362.out
    have hms156_0 := NB362_258.out
    have hms156_1 := NB362_259.out
    have hms156_2 := NB362_286.out
    have hms156_3 := NB362_298.out
    have hms156_4 := NB362_313.out
    have hs158 : w154.cell? ⟨gb362, 1, none⟩ = some (.slice none 0 0) := (blk_cell BK362.out 1).trans rfl
    have hfs158 := blk_frozen BK362.out 1
    have hns158_0 := NB258_362.out
    have hns158_1 := NB259_362.out
    have hns158_2 := NB286_362.out
    have hns158_3 := NB298_362.out
    have hns158_4 := NB313_362.out
    have hms158_0 := NB362_258.out
    have hms158_1 := NB362_259.out
    have hms158_2 := NB362_286.out
    have hms158_3 := NB362_298.out
    have hms158_4 := NB362_313.out
    have hs160 : w154.cell? ⟨gb362, 2, none⟩ = some (.slice none 0 0) := (blk_cell BK362.out 2).trans rfl
    have hfs160 := blk_frozen BK362.out 2
    have hns160_0 := NB258_362.out
    have hns160_1 := NB259_362.out
    have hns160_2 := NB286_362.out
    have hns160_3 := NB298_362.out
    have hns160_4 := NB313_362.out
    have hms160_0 := NB362_258.out
    have hms160_1 := NB362_259.out
    have hms160_2 := NB362_286.out
    have hms160_3 := NB362_298.out
    have hms160_4 := NB362_313.out
    have hs161 : w154.cell? ⟨gb362, 3, none⟩ = some (.int .i64 0) := (blk_cell BK362.out 3).trans rfl
    have hfs161 := blk_frozen BK362.out 3
    have hns161_0 := NB258_362.out
    have hns161_1 := NB259_362.out
    have hns161_2 := NB286_362.out
    have hns161_3 := NB298_362.out
    have hns161_4 := NB313_362.out
    have hms161_0 := NB362_258.out
    have hms161_1 := NB362_259.out
    have hms161_2 := NB362_286.out
    have hms161_3 := NB362_298.out
    have hms161_4 := NB362_313.out
    have hs162 : w154.cell? ⟨gb362, 4, none⟩ = some (.int .i64 0) := (blk_cell BK362.out 4).trans rfl
    have hfs162 := blk_frozen BK362.out 4
    have hns162_0 := NB258_362.out
    have hns162_1 := NB259_362.out
    have hns162_2 := NB286_362.out
    have hns162_3 := NB298_362.out
    have hns162_4 := NB313_362.out
    have hms162_0 := NB362_258.out
    have hms162_1 := NB362_259.out
    have hms162_2 := NB362_286.out
    have hms162_3 := NB362_298.out
    have hms162_4 := NB362_313.out
    refine skip_ (w1 := ?_) (by rfl) rfl ?_ ?_
    rotate_left
    ·
     go_simp
     rfl
    refine hK.out _ _ ⟨((cell_far (p := ⟨gb362, _, none⟩) NB258_362.out _).trans (((cell_far (p := ⟨gb362, _, none⟩) NB258_362.out _).trans (((cell_far (p := ⟨gb362, _, none⟩) NB258_362.out _).trans (((cell_far (p := ⟨gb362, _, none⟩) NB258_362.out _).trans (((cell_far (p := ⟨gb362, _, none⟩) NB258_362.out _).trans (hHeld.1)))))))))), ((cell_far (p := ⟨gb362, _, none⟩) NB258_362.out _).trans (((cell_far (p := ⟨gb362, _, none⟩) NB258_362.out _).trans (((cell_far (p := ⟨gb362, _, none⟩) NB258_362.out _).trans (((cell_far (p := ⟨gb362, _, none⟩) NB258_362.out _).trans (((cell_far (p := ⟨gb362, _, none⟩) NB258_362.out _).trans (hHeld.2.1)))))))))), ((cell_far (p := ⟨gb362, _, none⟩) NB258_362.out _).trans (((cell_far (p := ⟨gb362, _, none⟩) NB258_362.out _).trans (((cell_far (p := ⟨gb362, _, none⟩) NB258_362.out _).trans (((cell_far (p := ⟨gb362, _, none⟩) NB258_362.out _).trans (((cell_far (p := ⟨gb362, _, none⟩) NB258_362.out _).trans (hHeld.2.2.1)))))))))), ((cell_far (p := ⟨gb362, _, none⟩) NB258_362.out _).trans (((cell_far (p := ⟨gb362, _, none⟩) NB258_362.out _).trans (((cell_far (p := ⟨gb362, _, none⟩) NB258_362.out _).trans (((cell_far (p := ⟨gb362, _, none⟩) NB258_362.out _).trans (((cell_far (p := ⟨gb362, _, none⟩) NB258_362.out _).trans (hHeld.2.2.2.1)))))))))), ((cell_far (p := ⟨gb362, _, none⟩) NB258_362.out _).trans (((cell_far (p := ⟨gb362, _, none⟩) NB258_362.out _).trans (((cell_far (p := ⟨gb362, _, none⟩) NB258_362.out _).trans (((cell_far (p := ⟨gb362, _, none⟩) NB258_362.out _).trans (((cell_far (p := ⟨gb362, _, none⟩) NB258_362.out _).trans (hHeld.2.2.2.2.1)))))))))), ((cell_far (p := ⟨gb362, _, none⟩) NB259_362.out _).trans (((cell_far (p := ⟨gb362, _, none⟩) NB259_362.out _).trans (((cell_far (p := ⟨gb362, _, none⟩) NB259_362.out _).trans (((cell_far (p := ⟨gb362, _, none⟩) NB259_362.out _).trans (((cell_far (p := ⟨gb362, _, none⟩) NB259_362.out _).trans (hHeld.2.2.2.2.2.1)))))))))), ((cell_far (p := ⟨gb362, _, none⟩) NB259_362.out _).trans (((cell_far (p := ⟨gb362, _, none⟩) NB259_362.out _).trans (((cell_far (p := ⟨gb362, _, none⟩) NB259_362.out _).trans (((cell_far (p := ⟨gb362, _, none⟩) NB259_362.out _).trans (((cell_far (p := ⟨gb362, _, none⟩) NB259_362.out _).trans (hHeld.2.2.2.2.2.2))))))))))⟩ (fun hHeld => ?_)
    clear hK K
    refine pure_ (i := 10) (N := some 15) (v := ?_) (a' := ?_) #[I, I, I, I, I, I, I, I, I, I, I] rfl rfl (any_of HT_.out (by kernel_rfl)) (fun _ _ _ h => h) (Or.inl ⟨by rfl, ?_⟩) ?_ ?_
    rotate_left
    ·
     intro w'
     go_simp
     with_reducible rfl
    rotate_left
    ·
     simp only [pk, i64_w, i32_w]
     rfl
    refine done_ (done_of HT_.out (by kernel_rfl)) ?_
    go_upto_region 25 with (fail)
    go_cut [95] (fun v95 wc => ∃ (kq : Nat) (x95_144 : Bool), v95 = .bool x95_144 ∧ As (laws_FnExactLooked.j8 kq t332 x95_144 t333 t334 t335 t310 t311 = some r) ∧ As (kq ≤ kj139) ∧ As (Kd.R k93 93 wc w.heap.size (fun k_ => some k_ ≠ ((.slice Ao40 t328.length co40) : Value).ownBlock ∧ some k_ ≠ ((.slice Ao53 t333.length co53) : Value).ownBlock ∧ some k_ ≠ ((.slice Ao155 t350.length co155) : Value).ownBlock) (.slice Ao27 t274.length co27) t274) ∧ As (Kd.R (Kd.int .i64) 3 wc w.heap.size (fun k_ => some k_ ≠ ((.slice Ao31 t280.length co31) : Value).ownBlock ∧ some k_ ≠ ((.slice Ao45 t329.length co45) : Value).ownBlock ∧ some k_ ≠ ((.slice Ao46 t330.length co46) : Value).ownBlock ∧ some k_ ≠ ((.slice Ao55 t334.length co55) : Value).ownBlock ∧ some k_ ≠ ((.slice Ao57 t335.length co57) : Value).ownBlock ∧ some k_ ≠ ((.slice Ao157 t353.length co157) : Value).ownBlock ∧ some k_ ≠ ((.slice Ao159 t356.length co159) : Value).ownBlock) (.slice Ao29 t277.length co29) t277) ∧ As (Kd.R (Kd.int .i64) 3 wc w.heap.size (fun k_ => some k_ ≠ ((.slice Ao29 t277.length co29) : Value).ownBlock ∧ some k_ ≠ ((.slice Ao45 t329.length co45) : Value).ownBlock ∧ some k_ ≠ ((.slice Ao46 t330.length co46) : Value).ownBlock ∧ some k_ ≠ ((.slice Ao55 t334.length co55) : Value).ownBlock ∧ some k_ ≠ ((.slice Ao57 t335.length co57) : Value).ownBlock ∧ some k_ ≠ ((.slice Ao157 t353.length co157) : Value).ownBlock ∧ some k_ ≠ ((.slice Ao159 t356.length co159) : Value).ownBlock) (.slice Ao31 t280.length co31) t280) ∧ As (Kd.R k93 93 wc w.heap.size (fun k_ => some k_ ≠ ((.slice Ao27 t274.length co27) : Value).ownBlock ∧ some k_ ≠ ((.slice Ao53 t333.length co53) : Value).ownBlock ∧ some k_ ≠ ((.slice Ao155 t350.length co155) : Value).ownBlock) (.slice Ao40 t328.length co40) t328) ∧ As (Kd.R (Kd.int .i64) 3 wc w.heap.size (fun k_ => some k_ ≠ ((.slice Ao29 t277.length co29) : Value).ownBlock ∧ some k_ ≠ ((.slice Ao31 t280.length co31) : Value).ownBlock ∧ some k_ ≠ ((.slice Ao46 t330.length co46) : Value).ownBlock ∧ some k_ ≠ ((.slice Ao55 t334.length co55) : Value).ownBlock ∧ some k_ ≠ ((.slice Ao57 t335.length co57) : Value).ownBlock ∧ some k_ ≠ ((.slice Ao157 t353.length co157) : Value).ownBlock ∧ some k_ ≠ ((.slice Ao159 t356.length co159) : Value).ownBlock) (.slice Ao45 t329.length co45) t329) ∧ As (Kd.R (Kd.int .i64) 3 wc w.heap.size (fun k_ => some k_ ≠ ((.slice Ao29 t277.length co29) : Value).ownBlock ∧ some k_ ≠ ((.slice Ao31 t280.length co31) : Value).ownBlock ∧ some k_ ≠ ((.slice Ao45 t329.length co45) : Value).ownBlock ∧ some k_ ≠ ((.slice Ao55 t334.length co55) : Value).ownBlock ∧ some k_ ≠ ((.slice Ao57 t335.length co57) : Value).ownBlock ∧ some k_ ≠ ((.slice Ao157 t353.length co157) : Value).ownBlock ∧ some k_ ≠ ((.slice Ao159 t356.length co159) : Value).ownBlock) (.slice Ao46 t330.length co46) t330) ∧ As (Kd.R k93 93 wc w.heap.size (fun k_ => some k_ ≠ ((.slice Ao27 t274.length co27) : Value).ownBlock ∧ some k_ ≠ ((.slice Ao40 t328.length co40) : Value).ownBlock ∧ some k_ ≠ ((.slice Ao155 t350.length co155) : Value).ownBlock) (.slice Ao53 t333.length co53) t333) ∧ As (Kd.R (Kd.int .i64) 3 wc w.heap.size (fun k_ => some k_ ≠ ((.slice Ao29 t277.length co29) : Value).ownBlock ∧ some k_ ≠ ((.slice Ao31 t280.length co31) : Value).ownBlock ∧ some k_ ≠ ((.slice Ao45 t329.length co45) : Value).ownBlock ∧ some k_ ≠ ((.slice Ao46 t330.length co46) : Value).ownBlock ∧ some k_ ≠ ((.slice Ao57 t335.length co57) : Value).ownBlock ∧ some k_ ≠ ((.slice Ao157 t353.length co157) : Value).ownBlock ∧ some k_ ≠ ((.slice Ao159 t356.length co159) : Value).ownBlock) (.slice Ao55 t334.length co55) t334) ∧ As (Kd.R (Kd.int .i64) 3 wc w.heap.size (fun k_ => some k_ ≠ ((.slice Ao29 t277.length co29) : Value).ownBlock ∧ some k_ ≠ ((.slice Ao31 t280.length co31) : Value).ownBlock ∧ some k_ ≠ ((.slice Ao45 t329.length co45) : Value).ownBlock ∧ some k_ ≠ ((.slice Ao46 t330.length co46) : Value).ownBlock ∧ some k_ ≠ ((.slice Ao55 t334.length co55) : Value).ownBlock ∧ some k_ ≠ ((.slice Ao157 t353.length co157) : Value).ownBlock ∧ some k_ ≠ ((.slice Ao159 t356.length co159) : Value).ownBlock) (.slice Ao57 t335.length co57) t335) ∧ As (Kd.R k93 93 wc w.heap.size (fun k_ => some k_ ≠ ((.slice Ao27 t274.length co27) : Value).ownBlock ∧ some k_ ≠ ((.slice Ao40 t328.length co40) : Value).ownBlock ∧ some k_ ≠ ((.slice Ao53 t333.length co53) : Value).ownBlock) (.slice Ao155 t350.length co155) t350) ∧ As (Kd.R (Kd.int .i64) 3 wc w.heap.size (fun k_ => some k_ ≠ ((.slice Ao29 t277.length co29) : Value).ownBlock ∧ some k_ ≠ ((.slice Ao31 t280.length co31) : Value).ownBlock ∧ some k_ ≠ ((.slice Ao45 t329.length co45) : Value).ownBlock ∧ some k_ ≠ ((.slice Ao46 t330.length co46) : Value).ownBlock ∧ some k_ ≠ ((.slice Ao55 t334.length co55) : Value).ownBlock ∧ some k_ ≠ ((.slice Ao57 t335.length co57) : Value).ownBlock ∧ some k_ ≠ ((.slice Ao159 t356.length co159) : Value).ownBlock) (.slice Ao157 t353.length co157) t353) ∧ As (Kd.R (Kd.int .i64) 3 wc w.heap.size (fun k_ => some k_ ≠ ((.slice Ao29 t277.length co29) : Value).ownBlock ∧ some k_ ≠ ((.slice Ao31 t280.length co31) : Value).ownBlock ∧ some k_ ≠ ((.slice Ao45 t329.length co45) : Value).ownBlock ∧ some k_ ≠ ((.slice Ao46 t330.length co46) : Value).ownBlock ∧ some k_ ≠ ((.slice Ao55 t334.length co55) : Value).ownBlock ∧ some k_ ≠ ((.slice Ao57 t335.length co57) : Value).ownBlock ∧ some k_ ≠ ((.slice Ao157 t353.length co157) : Value).ownBlock) (.slice Ao159 t356.length co159) t356) ∧ As (wc.heap[gb258]? = some (.cells #[(.slice A0_0 l0_0.length c0_0), (.slice A0_1 l0_1.length c0_1), (.slice A0_2 l0_2.length c0_2), .int .i64 a0_3, .int .i64 a0_4] 47 (0, 0))) ∧ As (wc.heap[gb259]? = some (.cells #[.int .i64 a1_0, .int .i64 a1_1] 48 (0, 0))) ∧ As (wc.heap[gb286]? = some (.cells #[(.slice Ao27 t274.length co27), (.slice Ao29 t277.length co29), (.slice Ao31 t280.length co31), .int .i64 t283, .int .i64 t284] 34 (0, 0))) ∧ As (wc.heap[gb298]? = some (.cells #[(.slice Ao40 t328.length co40), (.slice Ao45 t329.length co45), (.slice Ao46 t330.length co46), .int .i64 t296, .int .i64 t297] 34 (0, 0))) ∧ As (wc.heap[gb313]? = some (.cells #[(.slice Ao53 t333.length co53), (.slice Ao55 t334.length co55), (.slice Ao57 t335.length co57), .int .i64 t310, .int .i64 t311] 34 (0, 0))) ∧ As (wc.heap[gb362]? = some (.cells #[(.slice Ao155 t350.length co155), (.slice Ao157 t353.length co157), (.slice Ao159 t356.length co159), .int .i64 t359, .int .i64 t360] 34 (0, 0))) ∧ As (Below w.heap.size w wc))
    case first =>
     have H := HC145.out
     clear HC145
     obtain ⟨t363, A1630, H⟩ := Option.bind_eq_some_iff.mp H
     try dsimp only at H
     have A163 := As.mk A1630
     clear A1630
     by_cases c164 : t363 = true
     ·
      subst c164
      rw [if_pos rfl] at H
      have H' := As.mk H
      clear H
      have hnb165 := NB362_258.out
      have hnc165 := NB258_362.out
      have hnb166 := NB362_259.out
      have hnc166 := NB259_362.out
      have hnb167 := NB362_286.out
      have hnc167 := NB286_362.out
      have hnb168 := NB362_298.out
      have hnc168 := NB298_362.out
      have hnb169 := NB362_313.out
      have hnc169 := NB313_362.out
      obtain ⟨hcz170_0, hcz170_1, hcz170_2, hcz170_3, hcz170_4, hfz170_0, hfz170_1, hfz170_2, hfz170_3, hfz170_4⟩ := cl5 BK362.out
      have hnb171 := NB286_258.out
      have hnc171 := NB258_286.out
      have hnb172 := NB286_259.out
      have hnc172 := NB259_286.out
      have hnb173 := NB286_298.out
      have hnc173 := NB298_286.out
      have hnb174 := NB286_313.out
      have hnc174 := NB313_286.out
      obtain ⟨hcz175_0, hcz175_1, hcz175_2, hcz175_3, hcz175_4, hfz175_0, hfz175_1, hfz175_2, hfz175_3, hfz175_4⟩ := cl5 BK286.out
      go_wp2_with (first | ((with_reducible refine gate_callee (f := 27) rfl ?_); refine goesL_ (some 89) rfl rfl Try.func27 (by kernel_rfl) rfl #[.agg #[.slice Ao155 t350.length co155, .slice Ao157 t353.length co157, .slice Ao159 t356.length co159, .int .i64 t359, .int .i64 t360], .agg #[.slice Ao27 t274.length co27, .slice Ao29 t277.length co29, .slice Ao31 t280.length co31, .int .i64 t283, .int .i64 t284]] rfl (by (try simp only [lm]); first | done | rfl | (simp only [List.length_drop, List.length_take]; rfl)) ?_; (with_reducible refine (laws_eqMemory.calls kj139 _ _ t350 _ _ t353 _ _ t356 t359 t360 _ _ t274 _ _ t277 _ _ t280 t283 t284 true _ ?side1 ?side2 ?side3 ?side4 ?side5 ?side6 ?side7 ?side8 ?side9 ?side10 ?side11 ?side12 A163.out).mono ?_); (case side1 => refine (Kd.R_reads' (e := 93) (base := w.heap.size) (ok := fun k_ => (some k_ ≠ (v338 : Value).ownBlock ∧ (some k_ ≠ (.slice Ao27 t274.length co27 : Value).ownBlock ∧ (some k_ ≠ (.slice Ao40 t328.length co40 : Value).ownBlock ∧ some k_ ≠ (.slice Ao53 t333.length co53 : Value).ownBlock)))) (n := t350.length) (c := co155) ?_).2.2; exact (by (with_reducible repeat (first | apply Kd.R_alloc | apply Kd.R_drewN | apply Kd.R_drew)); (have z_ := R_far5 HO352.out BK362.out (by decide)); with_reducible exact z_ _ _ _ _ _)); (case side2 => exact (Kd.R_reads' HO352.out).2.1); (case side3 => refine (Kd.R_reads' (e := 3) (base := w.heap.size) (ok := fun k_ => (some k_ ≠ (v341 : Value).ownBlock ∧ (some k_ ≠ (v344 : Value).ownBlock ∧ (some k_ ≠ (.slice Ao159 t356.length co159 : Value).ownBlock ∧ (some k_ ≠ (.slice Ao29 t277.length co29 : Value).ownBlock ∧ (some k_ ≠ (.slice Ao31 t280.length co31 : Value).ownBlock ∧ (some k_ ≠ (.slice Ao45 t329.length co45 : Value).ownBlock ∧ (some k_ ≠ (.slice Ao46 t330.length co46 : Value).ownBlock ∧ (some k_ ≠ (.slice Ao55 t334.length co55 : Value).ownBlock ∧ some k_ ≠ (.slice Ao57 t335.length co57 : Value).ownBlock))))))))) (n := t353.length) (c := co157) ?_).2.2; exact (by (with_reducible repeat (first | apply Kd.R_alloc | apply Kd.R_drewN | apply Kd.R_drew)); (have z_ := R_far5 HO355.out BK362.out (by decide)); with_reducible exact z_ _ _ _ _ _)); (case side4 => exact (Kd.R_reads' HO355.out).2.1); (case side5 => refine (Kd.R_reads' (e := 3) (base := w.heap.size) (ok := fun k_ => (some k_ ≠ (v341 : Value).ownBlock ∧ (some k_ ≠ (v344 : Value).ownBlock ∧ (some k_ ≠ (.slice Ao157 t353.length co157 : Value).ownBlock ∧ (some k_ ≠ (.slice Ao29 t277.length co29 : Value).ownBlock ∧ (some k_ ≠ (.slice Ao31 t280.length co31 : Value).ownBlock ∧ (some k_ ≠ (.slice Ao45 t329.length co45 : Value).ownBlock ∧ (some k_ ≠ (.slice Ao46 t330.length co46 : Value).ownBlock ∧ (some k_ ≠ (.slice Ao55 t334.length co55 : Value).ownBlock ∧ some k_ ≠ (.slice Ao57 t335.length co57 : Value).ownBlock))))))))) (n := t356.length) (c := co159) ?_).2.2; exact (by (with_reducible repeat (first | apply Kd.R_alloc | apply Kd.R_drewN | apply Kd.R_drew)); (have z_ := R_far5 HO358.out BK362.out (by decide)); with_reducible exact z_ _ _ _ _ _)); (case side6 => exact (Kd.R_reads' HO358.out).2.1); (case side7 => refine (Kd.R_reads' (e := 93) (base := w.heap.size) (ok := fun k_ => (some k_ ≠ (v338 : Value).ownBlock ∧ (some k_ ≠ (.slice Ao155 t350.length co155 : Value).ownBlock ∧ (some k_ ≠ (.slice Ao40 t328.length co40 : Value).ownBlock ∧ some k_ ≠ (.slice Ao53 t333.length co53 : Value).ownBlock)))) (n := t274.length) (c := co27) ?_).2.2; exact (by (with_reducible repeat (first | apply Kd.R_alloc | apply Kd.R_drewN | apply Kd.R_drew)); (have z_ := R_far5 HO_287000.out BK362.out (by decide)); with_reducible exact z_ _ _ _ _ _)); (case side8 => exact (Kd.R_reads' HO_287000.out).2.1); (case side9 => refine (Kd.R_reads' (e := 3) (base := w.heap.size) (ok := fun k_ => (some k_ ≠ (v341 : Value).ownBlock ∧ (some k_ ≠ (v344 : Value).ownBlock ∧ (some k_ ≠ (.slice Ao157 t353.length co157 : Value).ownBlock ∧ (some k_ ≠ (.slice Ao159 t356.length co159 : Value).ownBlock ∧ (some k_ ≠ (.slice Ao31 t280.length co31 : Value).ownBlock ∧ (some k_ ≠ (.slice Ao45 t329.length co45 : Value).ownBlock ∧ (some k_ ≠ (.slice Ao46 t330.length co46 : Value).ownBlock ∧ (some k_ ≠ (.slice Ao55 t334.length co55 : Value).ownBlock ∧ some k_ ≠ (.slice Ao57 t335.length co57 : Value).ownBlock))))))))) (n := t277.length) (c := co29) ?_).2.2; exact (by (with_reducible repeat (first | apply Kd.R_alloc | apply Kd.R_drewN | apply Kd.R_drew)); (have z_ := R_far5 HO_287001.out BK362.out (by decide)); with_reducible exact z_ _ _ _ _ _)); (case side10 => exact (Kd.R_reads' HO_287001.out).2.1); (case side11 => refine (Kd.R_reads' (e := 3) (base := w.heap.size) (ok := fun k_ => (some k_ ≠ (v341 : Value).ownBlock ∧ (some k_ ≠ (v344 : Value).ownBlock ∧ (some k_ ≠ (.slice Ao157 t353.length co157 : Value).ownBlock ∧ (some k_ ≠ (.slice Ao159 t356.length co159 : Value).ownBlock ∧ (some k_ ≠ (.slice Ao29 t277.length co29 : Value).ownBlock ∧ (some k_ ≠ (.slice Ao45 t329.length co45 : Value).ownBlock ∧ (some k_ ≠ (.slice Ao46 t330.length co46 : Value).ownBlock ∧ (some k_ ≠ (.slice Ao55 t334.length co55 : Value).ownBlock ∧ some k_ ≠ (.slice Ao57 t335.length co57 : Value).ownBlock))))))))) (n := t280.length) (c := co31) ?_).2.2; exact (by (with_reducible repeat (first | apply Kd.R_alloc | apply Kd.R_drewN | apply Kd.R_drew)); (have z_ := R_far5 HO_287002.out BK362.out (by decide)); with_reducible exact z_ _ _ _ _ _)); (case side12 => exact (Kd.R_reads' HO_287002.out).2.1); rintro e w176 ⟨rfl, hb⟩; refine ⟨_, rfl, ?_⟩; replace HO_287000 := As.mk (Kd.R_below (by (with_reducible repeat (first | apply Kd.R_alloc | apply Kd.R_drewN | apply Kd.R_drew)); (have z_ := R_far5 HO_287000.out BK362.out (by decide)); with_reducible exact z_ _ _ _ _ _) hb); replace HO_287001 := As.mk (Kd.R_below (by (with_reducible repeat (first | apply Kd.R_alloc | apply Kd.R_drewN | apply Kd.R_drew)); (have z_ := R_far5 HO_287001.out BK362.out (by decide)); with_reducible exact z_ _ _ _ _ _) hb); replace HO_287002 := As.mk (Kd.R_below (by (with_reducible repeat (first | apply Kd.R_alloc | apply Kd.R_drewN | apply Kd.R_drew)); (have z_ := R_far5 HO_287002.out BK362.out (by decide)); with_reducible exact z_ _ _ _ _ _) hb); replace HO_299000 := As.mk (Kd.R_below (by (with_reducible repeat (first | apply Kd.R_alloc | apply Kd.R_drewN | apply Kd.R_drew)); (have z_ := R_far5 HO_299000.out BK362.out (by decide)); with_reducible exact z_ _ _ _ _ _) hb); replace HO_299001 := As.mk (Kd.R_below (by (with_reducible repeat (first | apply Kd.R_alloc | apply Kd.R_drewN | apply Kd.R_drew)); (have z_ := R_far5 HO_299001.out BK362.out (by decide)); with_reducible exact z_ _ _ _ _ _) hb); replace HO_299002 := As.mk (Kd.R_below (by (with_reducible repeat (first | apply Kd.R_alloc | apply Kd.R_drewN | apply Kd.R_drew)); (have z_ := R_far5 HO_299002.out BK362.out (by decide)); with_reducible exact z_ _ _ _ _ _) hb); replace HO_314000 := As.mk (Kd.R_below (by (with_reducible repeat (first | apply Kd.R_alloc | apply Kd.R_drewN | apply Kd.R_drew)); (have z_ := R_far5 HO_314000.out BK362.out (by decide)); with_reducible exact z_ _ _ _ _ _) hb); replace HO_314001 := As.mk (Kd.R_below (by (with_reducible repeat (first | apply Kd.R_alloc | apply Kd.R_drewN | apply Kd.R_drew)); (have z_ := R_far5 HO_314001.out BK362.out (by decide)); with_reducible exact z_ _ _ _ _ _) hb); replace HO_314002 := As.mk (Kd.R_below (by (with_reducible repeat (first | apply Kd.R_alloc | apply Kd.R_drewN | apply Kd.R_drew)); (have z_ := R_far5 HO_314002.out BK362.out (by decide)); with_reducible exact z_ _ _ _ _ _) hb); replace HO339 := As.mk (Kd.R_below (by (with_reducible repeat (first | apply Kd.R_alloc | apply Kd.R_drewN | apply Kd.R_drew)); (have z_ := R_far5 HO339.out BK362.out (by decide)); with_reducible exact z_ _ _ _ _ _) hb); replace HO342 := As.mk (Kd.R_below (by (with_reducible repeat (first | apply Kd.R_alloc | apply Kd.R_drewN | apply Kd.R_drew)); (have z_ := R_far5 HO342.out BK362.out (by decide)); with_reducible exact z_ _ _ _ _ _) hb); replace HO345 := As.mk (Kd.R_below (by (with_reducible repeat (first | apply Kd.R_alloc | apply Kd.R_drewN | apply Kd.R_drew)); (have z_ := R_far5 HO345.out BK362.out (by decide)); with_reducible exact z_ _ _ _ _ _) hb); replace HO352 := As.mk (Kd.R_below (by (with_reducible repeat (first | apply Kd.R_alloc | apply Kd.R_drewN | apply Kd.R_drew)); (have z_ := R_far5 HO352.out BK362.out (by decide)); with_reducible exact z_ _ _ _ _ _) hb); replace HO355 := As.mk (Kd.R_below (by (with_reducible repeat (first | apply Kd.R_alloc | apply Kd.R_drewN | apply Kd.R_drew)); (have z_ := R_far5 HO355.out BK362.out (by decide)); with_reducible exact z_ _ _ _ _ _) hb); replace HO358 := As.mk (Kd.R_below (by (with_reducible repeat (first | apply Kd.R_alloc | apply Kd.R_drewN | apply Kd.R_drew)); (have z_ := R_far5 HO358.out BK362.out (by decide)); with_reducible exact z_ _ _ _ _ _) hb); replace BK258 := As.mk (blk_below (g := gb258) (o := .cells #[.slice A0_0 l0_0.length c0_0, .slice A0_1 l0_1.length c0_1, .slice A0_2 l0_2.length c0_2, .int .i64 a0_3, .int .i64 a0_4] 47 (0, 0)) (by refine pl ?_; refine blk_far ?_ NB258_362.out _; refine pl ?_; refine blk_far ?_ NB258_362.out _; refine pl ?_; refine blk_far ?_ NB258_362.out _; refine pl ?_; refine blk_far ?_ NB258_362.out _; refine pl ?_; refine blk_far ?_ NB258_362.out _; exact bx BK258.out) hb); replace BK259 := As.mk (blk_below (g := gb259) (o := .cells #[.int .i64 a1_0, .int .i64 a1_1] 48 (0, 0)) (by refine pl ?_; refine blk_far ?_ NB259_362.out _; refine pl ?_; refine blk_far ?_ NB259_362.out _; refine pl ?_; refine blk_far ?_ NB259_362.out _; refine pl ?_; refine blk_far ?_ NB259_362.out _; refine pl ?_; refine blk_far ?_ NB259_362.out _; exact bx BK259.out) hb); replace BK286 := As.mk (blk_below (g := gb286) (o := .cells #[.slice Ao27 t274.length co27, .slice Ao29 t277.length co29, .slice Ao31 t280.length co31, .int .i64 t283, .int .i64 t284] 34 (0, 0)) (by refine pl ?_; refine blk_far ?_ NB286_362.out _; refine pl ?_; refine blk_far ?_ NB286_362.out _; refine pl ?_; refine blk_far ?_ NB286_362.out _; refine pl ?_; refine blk_far ?_ NB286_362.out _; refine pl ?_; refine blk_far ?_ NB286_362.out _; exact bx BK286.out) hb); replace BK298 := As.mk (blk_below (g := gb298) (o := .cells #[.slice Ao40 t328.length co40, .slice Ao45 t329.length co45, .slice Ao46 t330.length co46, .int .i64 t296, .int .i64 t297] 34 (0, 0)) (by refine pl ?_; refine blk_far ?_ NB298_362.out _; refine pl ?_; refine blk_far ?_ NB298_362.out _; refine pl ?_; refine blk_far ?_ NB298_362.out _; refine pl ?_; refine blk_far ?_ NB298_362.out _; refine pl ?_; refine blk_far ?_ NB298_362.out _; exact bx BK298.out) hb); replace BK313 := As.mk (blk_below (g := gb313) (o := .cells #[.slice Ao53 t333.length co53, .slice Ao55 t334.length co55, .slice Ao57 t335.length co57, .int .i64 t310, .int .i64 t311] 34 (0, 0)) (by refine pl ?_; refine blk_far ?_ NB313_362.out _; refine pl ?_; refine blk_far ?_ NB313_362.out _; refine pl ?_; refine blk_far ?_ NB313_362.out _; refine pl ?_; refine blk_far ?_ NB313_362.out _; refine pl ?_; refine blk_far ?_ NB313_362.out _; exact bx BK313.out) hb); replace BK362 := As.mk (blk_below (g := gb362) (o := .cells #[.slice Ao155 t350.length co155, .slice Ao157 t353.length co157, .slice Ao159 t356.length co159, .int .i64 t359, .int .i64 t360] 34 (0, 0)) (by refine pl ?_; refine blk_put (cs := #[.slice Ao155 t350.length co155, .slice Ao157 t353.length co157, .slice Ao159 t356.length co159, .int .i64 t359, .int .i64 0]) ?_ 4 _ rfl; refine pl ?_; refine blk_put (cs := #[.slice Ao155 t350.length co155, .slice Ao157 t353.length co157, .slice Ao159 t356.length co159, .int .i64 0, .int .i64 0]) ?_ 3 _ rfl; refine pl ?_; refine blk_put (cs := #[.slice Ao155 t350.length co155, .slice Ao157 t353.length co157, .slice none 0 0, .int .i64 0, .int .i64 0]) ?_ 2 _ rfl; refine pl ?_; refine blk_put (cs := #[.slice Ao155 t350.length co155, .slice none 0 0, .slice none 0 0, .int .i64 0, .int .i64 0]) ?_ 1 _ rfl; refine pl ?_; refine blk_put (cs := #[.slice none 0 0, .slice none 0 0, .slice none 0 0, .int .i64 0, .int .i64 0]) ?_ 0 _ rfl; exact bx BK362.out) hb); replace HB := As.mk (below_step (be w) hb); (try clear hb); (try clear hb2); (try clear hk); (try clear hi)))
      go_meet
      case rel => exact ⟨_, ((t361 != t285)), (by first | rfl | (simp; done) | (simp [*]; done)), H', ⟨by have := HJ3.out; have := HJ16.out; have := HJ82.out; have := HJ86.out; have := HJ95.out; have := HJ125.out; have := HJ129.out; have := HJ139.out; first | omega | exact Nat.le_refl _⟩, ⟨by (try simp only [hl299000_95]); (try simp only [hl299001_95]); (try simp only [hl299002_95]); (try simp only [hl314000_129]); (try simp only [hl314001_129]); (try simp only [hl314002_129]); (with_reducible repeat (first | apply Kd.R_alloc | apply Kd.R_drewN | apply Kd.R_drew)); exact Kd.R_mono HO_287000.out (fun _ hk => ⟨hk.2.2.1, ⟨hk.2.2.2, hk.2.1⟩⟩)⟩, ⟨by (try simp only [hl299000_95]); (try simp only [hl299001_95]); (try simp only [hl299002_95]); (try simp only [hl314000_129]); (try simp only [hl314001_129]); (try simp only [hl314002_129]); (with_reducible repeat (first | apply Kd.R_alloc | apply Kd.R_drewN | apply Kd.R_drew)); exact Kd.R_mono HO_287001.out (fun _ hk => ⟨hk.2.2.2.2.1, ⟨hk.2.2.2.2.2.1, ⟨hk.2.2.2.2.2.2.1, ⟨hk.2.2.2.2.2.2.2.1, ⟨hk.2.2.2.2.2.2.2.2, ⟨hk.2.2.1, hk.2.2.2.1⟩⟩⟩⟩⟩⟩)⟩, ⟨by (try simp only [hl299000_95]); (try simp only [hl299001_95]); (try simp only [hl299002_95]); (try simp only [hl314000_129]); (try simp only [hl314001_129]); (try simp only [hl314002_129]); (with_reducible repeat (first | apply Kd.R_alloc | apply Kd.R_drewN | apply Kd.R_drew)); exact Kd.R_mono HO_287002.out (fun _ hk => ⟨hk.2.2.2.2.1, ⟨hk.2.2.2.2.2.1, ⟨hk.2.2.2.2.2.2.1, ⟨hk.2.2.2.2.2.2.2.1, ⟨hk.2.2.2.2.2.2.2.2, ⟨hk.2.2.1, hk.2.2.2.1⟩⟩⟩⟩⟩⟩)⟩, ⟨by (try simp only [hl299000_95]); (try simp only [hl299001_95]); (try simp only [hl299002_95]); (try simp only [hl314000_129]); (try simp only [hl314001_129]); (try simp only [hl314002_129]); (with_reducible repeat (first | apply Kd.R_alloc | apply Kd.R_drewN | apply Kd.R_drew)); exact Kd.R_mono HO_299000.out (fun _ hk => ⟨hk.2.2.1, ⟨hk.2.2.2, hk.2.1⟩⟩)⟩, ⟨by (try simp only [hl299000_95]); (try simp only [hl299001_95]); (try simp only [hl299002_95]); (try simp only [hl314000_129]); (try simp only [hl314001_129]); (try simp only [hl314002_129]); (with_reducible repeat (first | apply Kd.R_alloc | apply Kd.R_drewN | apply Kd.R_drew)); exact Kd.R_mono HO_299001.out (fun _ hk => ⟨hk.2.2.2.2.1, ⟨hk.2.2.2.2.2.1, ⟨hk.2.2.2.2.2.2.1, ⟨hk.2.2.2.2.2.2.2.1, ⟨hk.2.2.2.2.2.2.2.2, ⟨hk.2.2.1, hk.2.2.2.1⟩⟩⟩⟩⟩⟩)⟩, ⟨by (try simp only [hl299000_95]); (try simp only [hl299001_95]); (try simp only [hl299002_95]); (try simp only [hl314000_129]); (try simp only [hl314001_129]); (try simp only [hl314002_129]); (with_reducible repeat (first | apply Kd.R_alloc | apply Kd.R_drewN | apply Kd.R_drew)); exact Kd.R_mono HO_299002.out (fun _ hk => ⟨hk.2.2.2.2.1, ⟨hk.2.2.2.2.2.1, ⟨hk.2.2.2.2.2.2.1, ⟨hk.2.2.2.2.2.2.2.1, ⟨hk.2.2.2.2.2.2.2.2, ⟨hk.2.2.1, hk.2.2.2.1⟩⟩⟩⟩⟩⟩)⟩, ⟨by (try simp only [hl299000_95]); (try simp only [hl299001_95]); (try simp only [hl299002_95]); (try simp only [hl314000_129]); (try simp only [hl314001_129]); (try simp only [hl314002_129]); (with_reducible repeat (first | apply Kd.R_alloc | apply Kd.R_drewN | apply Kd.R_drew)); exact Kd.R_mono HO_314000.out (fun _ hk => ⟨hk.2.2.1, ⟨hk.2.2.2, hk.2.1⟩⟩)⟩, ⟨by (try simp only [hl299000_95]); (try simp only [hl299001_95]); (try simp only [hl299002_95]); (try simp only [hl314000_129]); (try simp only [hl314001_129]); (try simp only [hl314002_129]); (with_reducible repeat (first | apply Kd.R_alloc | apply Kd.R_drewN | apply Kd.R_drew)); exact Kd.R_mono HO_314001.out (fun _ hk => ⟨hk.2.2.2.2.1, ⟨hk.2.2.2.2.2.1, ⟨hk.2.2.2.2.2.2.1, ⟨hk.2.2.2.2.2.2.2.1, ⟨hk.2.2.2.2.2.2.2.2, ⟨hk.2.2.1, hk.2.2.2.1⟩⟩⟩⟩⟩⟩)⟩, ⟨by (try simp only [hl299000_95]); (try simp only [hl299001_95]); (try simp only [hl299002_95]); (try simp only [hl314000_129]); (try simp only [hl314001_129]); (try simp only [hl314002_129]); (with_reducible repeat (first | apply Kd.R_alloc | apply Kd.R_drewN | apply Kd.R_drew)); exact Kd.R_mono HO_314002.out (fun _ hk => ⟨hk.2.2.2.2.1, ⟨hk.2.2.2.2.2.1, ⟨hk.2.2.2.2.2.2.1, ⟨hk.2.2.2.2.2.2.2.1, ⟨hk.2.2.2.2.2.2.2.2, ⟨hk.2.2.1, hk.2.2.2.1⟩⟩⟩⟩⟩⟩)⟩, ⟨by (try simp only [hl299000_95]); (try simp only [hl299001_95]); (try simp only [hl299002_95]); (try simp only [hl314000_129]); (try simp only [hl314001_129]); (try simp only [hl314002_129]); (with_reducible repeat (first | apply Kd.R_alloc | apply Kd.R_drewN | apply Kd.R_drew)); exact Kd.R_mono HO352.out (fun _ hk => ⟨hk.2.1, ⟨hk.2.2.1, hk.2.2.2⟩⟩)⟩, ⟨by (try simp only [hl299000_95]); (try simp only [hl299001_95]); (try simp only [hl299002_95]); (try simp only [hl314000_129]); (try simp only [hl314001_129]); (try simp only [hl314002_129]); (with_reducible repeat (first | apply Kd.R_alloc | apply Kd.R_drewN | apply Kd.R_drew)); exact Kd.R_mono HO355.out (fun _ hk => ⟨hk.2.2.2.1, ⟨hk.2.2.2.2.1, ⟨hk.2.2.2.2.2.1, ⟨hk.2.2.2.2.2.2.1, ⟨hk.2.2.2.2.2.2.2.1, ⟨hk.2.2.2.2.2.2.2.2, hk.2.2.1⟩⟩⟩⟩⟩⟩)⟩, ⟨by (try simp only [hl299000_95]); (try simp only [hl299001_95]); (try simp only [hl299002_95]); (try simp only [hl314000_129]); (try simp only [hl314001_129]); (try simp only [hl314002_129]); (with_reducible repeat (first | apply Kd.R_alloc | apply Kd.R_drewN | apply Kd.R_drew)); exact Kd.R_mono HO358.out (fun _ hk => ⟨hk.2.2.2.1, ⟨hk.2.2.2.2.1, ⟨hk.2.2.2.2.2.1, ⟨hk.2.2.2.2.2.2.1, ⟨hk.2.2.2.2.2.2.2.1, ⟨hk.2.2.2.2.2.2.2.2, hk.2.2.1⟩⟩⟩⟩⟩⟩)⟩, ⟨by (try simp only [hl299000_95]); (try simp only [hl299001_95]); (try simp only [hl299002_95]); (try simp only [hl314000_129]); (try simp only [hl314001_129]); (try simp only [hl314002_129]); exact bx BK258.out⟩, ⟨by (try simp only [hl299000_95]); (try simp only [hl299001_95]); (try simp only [hl299002_95]); (try simp only [hl314000_129]); (try simp only [hl314001_129]); (try simp only [hl314002_129]); exact bx BK259.out⟩, ⟨by (try simp only [hl299000_95]); (try simp only [hl299001_95]); (try simp only [hl299002_95]); (try simp only [hl314000_129]); (try simp only [hl314001_129]); (try simp only [hl314002_129]); exact bx BK286.out⟩, ⟨by (try simp only [hl299000_95]); (try simp only [hl299001_95]); (try simp only [hl299002_95]); (try simp only [hl314000_129]); (try simp only [hl314001_129]); (try simp only [hl314002_129]); exact bx BK298.out⟩, ⟨by (try simp only [hl299000_95]); (try simp only [hl299001_95]); (try simp only [hl299002_95]); (try simp only [hl314000_129]); (try simp only [hl314001_129]); (try simp only [hl314002_129]); exact bx BK313.out⟩, ⟨by (try simp only [hl299000_95]); (try simp only [hl299001_95]); (try simp only [hl299002_95]); (try simp only [hl314000_129]); (try simp only [hl314001_129]); (try simp only [hl314002_129]); exact bx BK362.out⟩, ⟨be w⟩⟩
     replace c164 := Bool.eq_false_iff.mpr c164
     subst c164
     rw [if_neg (show ¬ (false = true) by decide)] at H
     have H' := As.mk H
     clear H
     have hnb177 := NB362_258.out
     have hnc177 := NB258_362.out
     have hnb178 := NB362_259.out
     have hnc178 := NB259_362.out
     have hnb179 := NB362_286.out
     have hnc179 := NB286_362.out
     have hnb180 := NB362_298.out
     have hnc180 := NB298_362.out
     have hnb181 := NB362_313.out
     have hnc181 := NB313_362.out
     obtain ⟨hcz182_0, hcz182_1, hcz182_2, hcz182_3, hcz182_4, hfz182_0, hfz182_1, hfz182_2, hfz182_3, hfz182_4⟩ := cl5 BK362.out
     have hnb183 := NB286_258.out
     have hnc183 := NB258_286.out
     have hnb184 := NB286_259.out
     have hnc184 := NB259_286.out
     have hnb185 := NB286_298.out
     have hnc185 := NB298_286.out
     have hnb186 := NB286_313.out
     have hnc186 := NB313_286.out
     obtain ⟨hcz187_0, hcz187_1, hcz187_2, hcz187_3, hcz187_4, hfz187_0, hfz187_1, hfz187_2, hfz187_3, hfz187_4⟩ := cl5 BK286.out
     go_wp2_with (first | ((with_reducible refine gate_callee (f := 27) rfl ?_); refine goesL_ (some 89) rfl rfl Try.func27 (by kernel_rfl) rfl #[.agg #[.slice Ao155 t350.length co155, .slice Ao157 t353.length co157, .slice Ao159 t356.length co159, .int .i64 t359, .int .i64 t360], .agg #[.slice Ao27 t274.length co27, .slice Ao29 t277.length co29, .slice Ao31 t280.length co31, .int .i64 t283, .int .i64 t284]] rfl (by (try simp only [lm]); first | done | rfl | (simp only [List.length_drop, List.length_take]; rfl)) ?_; (with_reducible refine (laws_eqMemory.calls kj139 _ _ t350 _ _ t353 _ _ t356 t359 t360 _ _ t274 _ _ t277 _ _ t280 t283 t284 false _ ?side1 ?side2 ?side3 ?side4 ?side5 ?side6 ?side7 ?side8 ?side9 ?side10 ?side11 ?side12 A163.out).mono ?_); (case side1 => refine (Kd.R_reads' (e := 93) (base := w.heap.size) (ok := fun k_ => (some k_ ≠ (v338 : Value).ownBlock ∧ (some k_ ≠ (.slice Ao27 t274.length co27 : Value).ownBlock ∧ (some k_ ≠ (.slice Ao40 t328.length co40 : Value).ownBlock ∧ some k_ ≠ (.slice Ao53 t333.length co53 : Value).ownBlock)))) (n := t350.length) (c := co155) ?_).2.2; exact (by (with_reducible repeat (first | apply Kd.R_alloc | apply Kd.R_drewN | apply Kd.R_drew)); (have z_ := R_far5 HO352.out BK362.out (by decide)); with_reducible exact z_ _ _ _ _ _)); (case side2 => exact (Kd.R_reads' HO352.out).2.1); (case side3 => refine (Kd.R_reads' (e := 3) (base := w.heap.size) (ok := fun k_ => (some k_ ≠ (v341 : Value).ownBlock ∧ (some k_ ≠ (v344 : Value).ownBlock ∧ (some k_ ≠ (.slice Ao159 t356.length co159 : Value).ownBlock ∧ (some k_ ≠ (.slice Ao29 t277.length co29 : Value).ownBlock ∧ (some k_ ≠ (.slice Ao31 t280.length co31 : Value).ownBlock ∧ (some k_ ≠ (.slice Ao45 t329.length co45 : Value).ownBlock ∧ (some k_ ≠ (.slice Ao46 t330.length co46 : Value).ownBlock ∧ (some k_ ≠ (.slice Ao55 t334.length co55 : Value).ownBlock ∧ some k_ ≠ (.slice Ao57 t335.length co57 : Value).ownBlock))))))))) (n := t353.length) (c := co157) ?_).2.2; exact (by (with_reducible repeat (first | apply Kd.R_alloc | apply Kd.R_drewN | apply Kd.R_drew)); (have z_ := R_far5 HO355.out BK362.out (by decide)); with_reducible exact z_ _ _ _ _ _)); (case side4 => exact (Kd.R_reads' HO355.out).2.1); (case side5 => refine (Kd.R_reads' (e := 3) (base := w.heap.size) (ok := fun k_ => (some k_ ≠ (v341 : Value).ownBlock ∧ (some k_ ≠ (v344 : Value).ownBlock ∧ (some k_ ≠ (.slice Ao157 t353.length co157 : Value).ownBlock ∧ (some k_ ≠ (.slice Ao29 t277.length co29 : Value).ownBlock ∧ (some k_ ≠ (.slice Ao31 t280.length co31 : Value).ownBlock ∧ (some k_ ≠ (.slice Ao45 t329.length co45 : Value).ownBlock ∧ (some k_ ≠ (.slice Ao46 t330.length co46 : Value).ownBlock ∧ (some k_ ≠ (.slice Ao55 t334.length co55 : Value).ownBlock ∧ some k_ ≠ (.slice Ao57 t335.length co57 : Value).ownBlock))))))))) (n := t356.length) (c := co159) ?_).2.2; exact (by (with_reducible repeat (first | apply Kd.R_alloc | apply Kd.R_drewN | apply Kd.R_drew)); (have z_ := R_far5 HO358.out BK362.out (by decide)); with_reducible exact z_ _ _ _ _ _)); (case side6 => exact (Kd.R_reads' HO358.out).2.1); (case side7 => refine (Kd.R_reads' (e := 93) (base := w.heap.size) (ok := fun k_ => (some k_ ≠ (v338 : Value).ownBlock ∧ (some k_ ≠ (.slice Ao155 t350.length co155 : Value).ownBlock ∧ (some k_ ≠ (.slice Ao40 t328.length co40 : Value).ownBlock ∧ some k_ ≠ (.slice Ao53 t333.length co53 : Value).ownBlock)))) (n := t274.length) (c := co27) ?_).2.2; exact (by (with_reducible repeat (first | apply Kd.R_alloc | apply Kd.R_drewN | apply Kd.R_drew)); (have z_ := R_far5 HO_287000.out BK362.out (by decide)); with_reducible exact z_ _ _ _ _ _)); (case side8 => exact (Kd.R_reads' HO_287000.out).2.1); (case side9 => refine (Kd.R_reads' (e := 3) (base := w.heap.size) (ok := fun k_ => (some k_ ≠ (v341 : Value).ownBlock ∧ (some k_ ≠ (v344 : Value).ownBlock ∧ (some k_ ≠ (.slice Ao157 t353.length co157 : Value).ownBlock ∧ (some k_ ≠ (.slice Ao159 t356.length co159 : Value).ownBlock ∧ (some k_ ≠ (.slice Ao31 t280.length co31 : Value).ownBlock ∧ (some k_ ≠ (.slice Ao45 t329.length co45 : Value).ownBlock ∧ (some k_ ≠ (.slice Ao46 t330.length co46 : Value).ownBlock ∧ (some k_ ≠ (.slice Ao55 t334.length co55 : Value).ownBlock ∧ some k_ ≠ (.slice Ao57 t335.length co57 : Value).ownBlock))))))))) (n := t277.length) (c := co29) ?_).2.2; exact (by (with_reducible repeat (first | apply Kd.R_alloc | apply Kd.R_drewN | apply Kd.R_drew)); (have z_ := R_far5 HO_287001.out BK362.out (by decide)); with_reducible exact z_ _ _ _ _ _)); (case side10 => exact (Kd.R_reads' HO_287001.out).2.1); (case side11 => refine (Kd.R_reads' (e := 3) (base := w.heap.size) (ok := fun k_ => (some k_ ≠ (v341 : Value).ownBlock ∧ (some k_ ≠ (v344 : Value).ownBlock ∧ (some k_ ≠ (.slice Ao157 t353.length co157 : Value).ownBlock ∧ (some k_ ≠ (.slice Ao159 t356.length co159 : Value).ownBlock ∧ (some k_ ≠ (.slice Ao29 t277.length co29 : Value).ownBlock ∧ (some k_ ≠ (.slice Ao45 t329.length co45 : Value).ownBlock ∧ (some k_ ≠ (.slice Ao46 t330.length co46 : Value).ownBlock ∧ (some k_ ≠ (.slice Ao55 t334.length co55 : Value).ownBlock ∧ some k_ ≠ (.slice Ao57 t335.length co57 : Value).ownBlock))))))))) (n := t280.length) (c := co31) ?_).2.2; exact (by (with_reducible repeat (first | apply Kd.R_alloc | apply Kd.R_drewN | apply Kd.R_drew)); (have z_ := R_far5 HO_287002.out BK362.out (by decide)); with_reducible exact z_ _ _ _ _ _)); (case side12 => exact (Kd.R_reads' HO_287002.out).2.1); rintro e w188 ⟨rfl, hb⟩; refine ⟨_, rfl, ?_⟩; replace HO_287000 := As.mk (Kd.R_below (by (with_reducible repeat (first | apply Kd.R_alloc | apply Kd.R_drewN | apply Kd.R_drew)); (have z_ := R_far5 HO_287000.out BK362.out (by decide)); with_reducible exact z_ _ _ _ _ _) hb); replace HO_287001 := As.mk (Kd.R_below (by (with_reducible repeat (first | apply Kd.R_alloc | apply Kd.R_drewN | apply Kd.R_drew)); (have z_ := R_far5 HO_287001.out BK362.out (by decide)); with_reducible exact z_ _ _ _ _ _) hb); replace HO_287002 := As.mk (Kd.R_below (by (with_reducible repeat (first | apply Kd.R_alloc | apply Kd.R_drewN | apply Kd.R_drew)); (have z_ := R_far5 HO_287002.out BK362.out (by decide)); with_reducible exact z_ _ _ _ _ _) hb); replace HO_299000 := As.mk (Kd.R_below (by (with_reducible repeat (first | apply Kd.R_alloc | apply Kd.R_drewN | apply Kd.R_drew)); (have z_ := R_far5 HO_299000.out BK362.out (by decide)); with_reducible exact z_ _ _ _ _ _) hb); replace HO_299001 := As.mk (Kd.R_below (by (with_reducible repeat (first | apply Kd.R_alloc | apply Kd.R_drewN | apply Kd.R_drew)); (have z_ := R_far5 HO_299001.out BK362.out (by decide)); with_reducible exact z_ _ _ _ _ _) hb); replace HO_299002 := As.mk (Kd.R_below (by (with_reducible repeat (first | apply Kd.R_alloc | apply Kd.R_drewN | apply Kd.R_drew)); (have z_ := R_far5 HO_299002.out BK362.out (by decide)); with_reducible exact z_ _ _ _ _ _) hb); replace HO_314000 := As.mk (Kd.R_below (by (with_reducible repeat (first | apply Kd.R_alloc | apply Kd.R_drewN | apply Kd.R_drew)); (have z_ := R_far5 HO_314000.out BK362.out (by decide)); with_reducible exact z_ _ _ _ _ _) hb); replace HO_314001 := As.mk (Kd.R_below (by (with_reducible repeat (first | apply Kd.R_alloc | apply Kd.R_drewN | apply Kd.R_drew)); (have z_ := R_far5 HO_314001.out BK362.out (by decide)); with_reducible exact z_ _ _ _ _ _) hb); replace HO_314002 := As.mk (Kd.R_below (by (with_reducible repeat (first | apply Kd.R_alloc | apply Kd.R_drewN | apply Kd.R_drew)); (have z_ := R_far5 HO_314002.out BK362.out (by decide)); with_reducible exact z_ _ _ _ _ _) hb); replace HO339 := As.mk (Kd.R_below (by (with_reducible repeat (first | apply Kd.R_alloc | apply Kd.R_drewN | apply Kd.R_drew)); (have z_ := R_far5 HO339.out BK362.out (by decide)); with_reducible exact z_ _ _ _ _ _) hb); replace HO342 := As.mk (Kd.R_below (by (with_reducible repeat (first | apply Kd.R_alloc | apply Kd.R_drewN | apply Kd.R_drew)); (have z_ := R_far5 HO342.out BK362.out (by decide)); with_reducible exact z_ _ _ _ _ _) hb); replace HO345 := As.mk (Kd.R_below (by (with_reducible repeat (first | apply Kd.R_alloc | apply Kd.R_drewN | apply Kd.R_drew)); (have z_ := R_far5 HO345.out BK362.out (by decide)); with_reducible exact z_ _ _ _ _ _) hb); replace HO352 := As.mk (Kd.R_below (by (with_reducible repeat (first | apply Kd.R_alloc | apply Kd.R_drewN | apply Kd.R_drew)); (have z_ := R_far5 HO352.out BK362.out (by decide)); with_reducible exact z_ _ _ _ _ _) hb); replace HO355 := As.mk (Kd.R_below (by (with_reducible repeat (first | apply Kd.R_alloc | apply Kd.R_drewN | apply Kd.R_drew)); (have z_ := R_far5 HO355.out BK362.out (by decide)); with_reducible exact z_ _ _ _ _ _) hb); replace HO358 := As.mk (Kd.R_below (by (with_reducible repeat (first | apply Kd.R_alloc | apply Kd.R_drewN | apply Kd.R_drew)); (have z_ := R_far5 HO358.out BK362.out (by decide)); with_reducible exact z_ _ _ _ _ _) hb); replace BK258 := As.mk (blk_below (g := gb258) (o := .cells #[.slice A0_0 l0_0.length c0_0, .slice A0_1 l0_1.length c0_1, .slice A0_2 l0_2.length c0_2, .int .i64 a0_3, .int .i64 a0_4] 47 (0, 0)) (by refine pl ?_; refine blk_far ?_ NB258_362.out _; refine pl ?_; refine blk_far ?_ NB258_362.out _; refine pl ?_; refine blk_far ?_ NB258_362.out _; refine pl ?_; refine blk_far ?_ NB258_362.out _; refine pl ?_; refine blk_far ?_ NB258_362.out _; exact bx BK258.out) hb); replace BK259 := As.mk (blk_below (g := gb259) (o := .cells #[.int .i64 a1_0, .int .i64 a1_1] 48 (0, 0)) (by refine pl ?_; refine blk_far ?_ NB259_362.out _; refine pl ?_; refine blk_far ?_ NB259_362.out _; refine pl ?_; refine blk_far ?_ NB259_362.out _; refine pl ?_; refine blk_far ?_ NB259_362.out _; refine pl ?_; refine blk_far ?_ NB259_362.out _; exact bx BK259.out) hb); replace BK286 := As.mk (blk_below (g := gb286) (o := .cells #[.slice Ao27 t274.length co27, .slice Ao29 t277.length co29, .slice Ao31 t280.length co31, .int .i64 t283, .int .i64 t284] 34 (0, 0)) (by refine pl ?_; refine blk_far ?_ NB286_362.out _; refine pl ?_; refine blk_far ?_ NB286_362.out _; refine pl ?_; refine blk_far ?_ NB286_362.out _; refine pl ?_; refine blk_far ?_ NB286_362.out _; refine pl ?_; refine blk_far ?_ NB286_362.out _; exact bx BK286.out) hb); replace BK298 := As.mk (blk_below (g := gb298) (o := .cells #[.slice Ao40 t328.length co40, .slice Ao45 t329.length co45, .slice Ao46 t330.length co46, .int .i64 t296, .int .i64 t297] 34 (0, 0)) (by refine pl ?_; refine blk_far ?_ NB298_362.out _; refine pl ?_; refine blk_far ?_ NB298_362.out _; refine pl ?_; refine blk_far ?_ NB298_362.out _; refine pl ?_; refine blk_far ?_ NB298_362.out _; refine pl ?_; refine blk_far ?_ NB298_362.out _; exact bx BK298.out) hb); replace BK313 := As.mk (blk_below (g := gb313) (o := .cells #[.slice Ao53 t333.length co53, .slice Ao55 t334.length co55, .slice Ao57 t335.length co57, .int .i64 t310, .int .i64 t311] 34 (0, 0)) (by refine pl ?_; refine blk_far ?_ NB313_362.out _; refine pl ?_; refine blk_far ?_ NB313_362.out _; refine pl ?_; refine blk_far ?_ NB313_362.out _; refine pl ?_; refine blk_far ?_ NB313_362.out _; refine pl ?_; refine blk_far ?_ NB313_362.out _; exact bx BK313.out) hb); replace BK362 := As.mk (blk_below (g := gb362) (o := .cells #[.slice Ao155 t350.length co155, .slice Ao157 t353.length co157, .slice Ao159 t356.length co159, .int .i64 t359, .int .i64 t360] 34 (0, 0)) (by refine pl ?_; refine blk_put (cs := #[.slice Ao155 t350.length co155, .slice Ao157 t353.length co157, .slice Ao159 t356.length co159, .int .i64 t359, .int .i64 0]) ?_ 4 _ rfl; refine pl ?_; refine blk_put (cs := #[.slice Ao155 t350.length co155, .slice Ao157 t353.length co157, .slice Ao159 t356.length co159, .int .i64 0, .int .i64 0]) ?_ 3 _ rfl; refine pl ?_; refine blk_put (cs := #[.slice Ao155 t350.length co155, .slice Ao157 t353.length co157, .slice none 0 0, .int .i64 0, .int .i64 0]) ?_ 2 _ rfl; refine pl ?_; refine blk_put (cs := #[.slice Ao155 t350.length co155, .slice none 0 0, .slice none 0 0, .int .i64 0, .int .i64 0]) ?_ 1 _ rfl; refine pl ?_; refine blk_put (cs := #[.slice none 0 0, .slice none 0 0, .slice none 0 0, .int .i64 0, .int .i64 0]) ?_ 0 _ rfl; exact bx BK362.out) hb); replace HB := As.mk (below_step (be w) hb); (try clear hb); (try clear hb2); (try clear hk); (try clear hi)))
     go_meet
     case rel => exact ⟨_, (true), (by first | rfl | (simp; done) | (simp [*]; done)), H', ⟨by have := HJ3.out; have := HJ16.out; have := HJ82.out; have := HJ86.out; have := HJ95.out; have := HJ125.out; have := HJ129.out; have := HJ139.out; first | omega | exact Nat.le_refl _⟩, ⟨by (try simp only [hl299000_95]); (try simp only [hl299001_95]); (try simp only [hl299002_95]); (try simp only [hl314000_129]); (try simp only [hl314001_129]); (try simp only [hl314002_129]); (with_reducible repeat (first | apply Kd.R_alloc | apply Kd.R_drewN | apply Kd.R_drew)); exact Kd.R_mono HO_287000.out (fun _ hk => ⟨hk.2.2.1, ⟨hk.2.2.2, hk.2.1⟩⟩)⟩, ⟨by (try simp only [hl299000_95]); (try simp only [hl299001_95]); (try simp only [hl299002_95]); (try simp only [hl314000_129]); (try simp only [hl314001_129]); (try simp only [hl314002_129]); (with_reducible repeat (first | apply Kd.R_alloc | apply Kd.R_drewN | apply Kd.R_drew)); exact Kd.R_mono HO_287001.out (fun _ hk => ⟨hk.2.2.2.2.1, ⟨hk.2.2.2.2.2.1, ⟨hk.2.2.2.2.2.2.1, ⟨hk.2.2.2.2.2.2.2.1, ⟨hk.2.2.2.2.2.2.2.2, ⟨hk.2.2.1, hk.2.2.2.1⟩⟩⟩⟩⟩⟩)⟩, ⟨by (try simp only [hl299000_95]); (try simp only [hl299001_95]); (try simp only [hl299002_95]); (try simp only [hl314000_129]); (try simp only [hl314001_129]); (try simp only [hl314002_129]); (with_reducible repeat (first | apply Kd.R_alloc | apply Kd.R_drewN | apply Kd.R_drew)); exact Kd.R_mono HO_287002.out (fun _ hk => ⟨hk.2.2.2.2.1, ⟨hk.2.2.2.2.2.1, ⟨hk.2.2.2.2.2.2.1, ⟨hk.2.2.2.2.2.2.2.1, ⟨hk.2.2.2.2.2.2.2.2, ⟨hk.2.2.1, hk.2.2.2.1⟩⟩⟩⟩⟩⟩)⟩, ⟨by (try simp only [hl299000_95]); (try simp only [hl299001_95]); (try simp only [hl299002_95]); (try simp only [hl314000_129]); (try simp only [hl314001_129]); (try simp only [hl314002_129]); (with_reducible repeat (first | apply Kd.R_alloc | apply Kd.R_drewN | apply Kd.R_drew)); exact Kd.R_mono HO_299000.out (fun _ hk => ⟨hk.2.2.1, ⟨hk.2.2.2, hk.2.1⟩⟩)⟩, ⟨by (try simp only [hl299000_95]); (try simp only [hl299001_95]); (try simp only [hl299002_95]); (try simp only [hl314000_129]); (try simp only [hl314001_129]); (try simp only [hl314002_129]); (with_reducible repeat (first | apply Kd.R_alloc | apply Kd.R_drewN | apply Kd.R_drew)); exact Kd.R_mono HO_299001.out (fun _ hk => ⟨hk.2.2.2.2.1, ⟨hk.2.2.2.2.2.1, ⟨hk.2.2.2.2.2.2.1, ⟨hk.2.2.2.2.2.2.2.1, ⟨hk.2.2.2.2.2.2.2.2, ⟨hk.2.2.1, hk.2.2.2.1⟩⟩⟩⟩⟩⟩)⟩, ⟨by (try simp only [hl299000_95]); (try simp only [hl299001_95]); (try simp only [hl299002_95]); (try simp only [hl314000_129]); (try simp only [hl314001_129]); (try simp only [hl314002_129]); (with_reducible repeat (first | apply Kd.R_alloc | apply Kd.R_drewN | apply Kd.R_drew)); exact Kd.R_mono HO_299002.out (fun _ hk => ⟨hk.2.2.2.2.1, ⟨hk.2.2.2.2.2.1, ⟨hk.2.2.2.2.2.2.1, ⟨hk.2.2.2.2.2.2.2.1, ⟨hk.2.2.2.2.2.2.2.2, ⟨hk.2.2.1, hk.2.2.2.1⟩⟩⟩⟩⟩⟩)⟩, ⟨by (try simp only [hl299000_95]); (try simp only [hl299001_95]); (try simp only [hl299002_95]); (try simp only [hl314000_129]); (try simp only [hl314001_129]); (try simp only [hl314002_129]); (with_reducible repeat (first | apply Kd.R_alloc | apply Kd.R_drewN | apply Kd.R_drew)); exact Kd.R_mono HO_314000.out (fun _ hk => ⟨hk.2.2.1, ⟨hk.2.2.2, hk.2.1⟩⟩)⟩, ⟨by (try simp only [hl299000_95]); (try simp only [hl299001_95]); (try simp only [hl299002_95]); (try simp only [hl314000_129]); (try simp only [hl314001_129]); (try simp only [hl314002_129]); (with_reducible repeat (first | apply Kd.R_alloc | apply Kd.R_drewN | apply Kd.R_drew)); exact Kd.R_mono HO_314001.out (fun _ hk => ⟨hk.2.2.2.2.1, ⟨hk.2.2.2.2.2.1, ⟨hk.2.2.2.2.2.2.1, ⟨hk.2.2.2.2.2.2.2.1, ⟨hk.2.2.2.2.2.2.2.2, ⟨hk.2.2.1, hk.2.2.2.1⟩⟩⟩⟩⟩⟩)⟩, ⟨by (try simp only [hl299000_95]); (try simp only [hl299001_95]); (try simp only [hl299002_95]); (try simp only [hl314000_129]); (try simp only [hl314001_129]); (try simp only [hl314002_129]); (with_reducible repeat (first | apply Kd.R_alloc | apply Kd.R_drewN | apply Kd.R_drew)); exact Kd.R_mono HO_314002.out (fun _ hk => ⟨hk.2.2.2.2.1, ⟨hk.2.2.2.2.2.1, ⟨hk.2.2.2.2.2.2.1, ⟨hk.2.2.2.2.2.2.2.1, ⟨hk.2.2.2.2.2.2.2.2, ⟨hk.2.2.1, hk.2.2.2.1⟩⟩⟩⟩⟩⟩)⟩, ⟨by (try simp only [hl299000_95]); (try simp only [hl299001_95]); (try simp only [hl299002_95]); (try simp only [hl314000_129]); (try simp only [hl314001_129]); (try simp only [hl314002_129]); (with_reducible repeat (first | apply Kd.R_alloc | apply Kd.R_drewN | apply Kd.R_drew)); exact Kd.R_mono HO352.out (fun _ hk => ⟨hk.2.1, ⟨hk.2.2.1, hk.2.2.2⟩⟩)⟩, ⟨by (try simp only [hl299000_95]); (try simp only [hl299001_95]); (try simp only [hl299002_95]); (try simp only [hl314000_129]); (try simp only [hl314001_129]); (try simp only [hl314002_129]); (with_reducible repeat (first | apply Kd.R_alloc | apply Kd.R_drewN | apply Kd.R_drew)); exact Kd.R_mono HO355.out (fun _ hk => ⟨hk.2.2.2.1, ⟨hk.2.2.2.2.1, ⟨hk.2.2.2.2.2.1, ⟨hk.2.2.2.2.2.2.1, ⟨hk.2.2.2.2.2.2.2.1, ⟨hk.2.2.2.2.2.2.2.2, hk.2.2.1⟩⟩⟩⟩⟩⟩)⟩, ⟨by (try simp only [hl299000_95]); (try simp only [hl299001_95]); (try simp only [hl299002_95]); (try simp only [hl314000_129]); (try simp only [hl314001_129]); (try simp only [hl314002_129]); (with_reducible repeat (first | apply Kd.R_alloc | apply Kd.R_drewN | apply Kd.R_drew)); exact Kd.R_mono HO358.out (fun _ hk => ⟨hk.2.2.2.1, ⟨hk.2.2.2.2.1, ⟨hk.2.2.2.2.2.1, ⟨hk.2.2.2.2.2.2.1, ⟨hk.2.2.2.2.2.2.2.1, ⟨hk.2.2.2.2.2.2.2.2, hk.2.2.1⟩⟩⟩⟩⟩⟩)⟩, ⟨by (try simp only [hl299000_95]); (try simp only [hl299001_95]); (try simp only [hl299002_95]); (try simp only [hl314000_129]); (try simp only [hl314001_129]); (try simp only [hl314002_129]); exact bx BK258.out⟩, ⟨by (try simp only [hl299000_95]); (try simp only [hl299001_95]); (try simp only [hl299002_95]); (try simp only [hl314000_129]); (try simp only [hl314001_129]); (try simp only [hl314002_129]); exact bx BK259.out⟩, ⟨by (try simp only [hl299000_95]); (try simp only [hl299001_95]); (try simp only [hl299002_95]); (try simp only [hl314000_129]); (try simp only [hl314001_129]); (try simp only [hl314002_129]); exact bx BK286.out⟩, ⟨by (try simp only [hl299000_95]); (try simp only [hl299001_95]); (try simp only [hl299002_95]); (try simp only [hl314000_129]); (try simp only [hl314001_129]); (try simp only [hl314002_129]); exact bx BK298.out⟩, ⟨by (try simp only [hl299000_95]); (try simp only [hl299001_95]); (try simp only [hl299002_95]); (try simp only [hl314000_129]); (try simp only [hl314001_129]); (try simp only [hl314002_129]); exact bx BK313.out⟩, ⟨by (try simp only [hl299000_95]); (try simp only [hl299001_95]); (try simp only [hl299002_95]); (try simp only [hl314000_129]); (try simp only [hl314001_129]); (try simp only [hl314002_129]); exact bx BK362.out⟩, ⟨be w⟩⟩
    case rest =>
     clear HC145
     obtain ⟨kq, x95_144, rfl, HA, HJ144, HO_287000, HO_287001, HO_287002, HO_299000, HO_299001, HO_299002, HO_314000, HO_314001, HO_314002, HO_363000, HO_363001, HO_363002, BK258, BK259, BK286, BK298, BK313, BK362, HB⟩ := hcut
     cases kq with
     | zero => exact absurd HA.out (by simp [laws_FnExactLooked.j8])
     | succ kj144 =>
      have H := HA.out
      clear HA
      simp only [laws_FnExactLooked.j8] at H
      have HC189 := As.mk H
      clear H
      go_upto_if 95 with (fail)
      go_cut [] (fun wc => ∃ (kq : Nat), As (laws_FnExactLooked.j9 kq t332 t333 t334 t335 t310 t311 = some r) ∧ As (kq ≤ kj144) ∧ As (Kd.R k93 93 wc w.heap.size (fun _ => True) (.slice Ao53 t333.length co53) t333) ∧ As (Kd.R (Kd.int .i64) 3 wc w.heap.size (fun k_ => some k_ ≠ ((.slice Ao57 t335.length co57) : Value).ownBlock) (.slice Ao55 t334.length co55) t334) ∧ As (Kd.R (Kd.int .i64) 3 wc w.heap.size (fun k_ => some k_ ≠ ((.slice Ao55 t334.length co55) : Value).ownBlock) (.slice Ao57 t335.length co57) t335) ∧ As (wc.heap[gb313]? = some (.cells #[(.slice Ao53 t333.length co53), (.slice Ao55 t334.length co55), (.slice Ao57 t335.length co57), .int .i64 t310, .int .i64 t311] 34 (0, 0))) ∧ As (Below w.heap.size w wc))
      case first =>
       have H := HC189.out
       clear HC189
       by_cases c190 : x95_144 = true
       ·
        subst c190
        rw [if_pos rfl] at H
        exact absurd H (by rw [hrt.out]; simp)
       replace c190 := Bool.eq_false_iff.mpr c190
       subst c190
       rw [if_neg (show ¬ (false = true) by decide)] at H
       have H' := As.mk H
       clear H
       go_wp2
       go_meet
       case rel => exact ⟨_, H', ⟨by have := HJ3.out; have := HJ16.out; have := HJ82.out; have := HJ86.out; have := HJ95.out; have := HJ125.out; have := HJ129.out; have := HJ139.out; have := HJ144.out; first | omega | exact Nat.le_refl _⟩, ⟨by (try simp only [hl299000_95]); (try simp only [hl299001_95]); (try simp only [hl299002_95]); (try simp only [hl314000_129]); (try simp only [hl314001_129]); (try simp only [hl314002_129]); (with_reducible repeat (first | apply Kd.R_alloc | apply Kd.R_drewN | apply Kd.R_drew)); exact Kd.R_mono HO_314000.out (fun _ hk => trivial)⟩, ⟨by (try simp only [hl299000_95]); (try simp only [hl299001_95]); (try simp only [hl299002_95]); (try simp only [hl314000_129]); (try simp only [hl314001_129]); (try simp only [hl314002_129]); (with_reducible repeat (first | apply Kd.R_alloc | apply Kd.R_drewN | apply Kd.R_drew)); exact Kd.R_mono HO_314001.out (fun _ hk => hk.2.2.2.2.1)⟩, ⟨by (try simp only [hl299000_95]); (try simp only [hl299001_95]); (try simp only [hl299002_95]); (try simp only [hl314000_129]); (try simp only [hl314001_129]); (try simp only [hl314002_129]); (with_reducible repeat (first | apply Kd.R_alloc | apply Kd.R_drewN | apply Kd.R_drew)); exact Kd.R_mono HO_314002.out (fun _ hk => hk.2.2.2.2.1)⟩, ⟨by (try simp only [hl299000_95]); (try simp only [hl299001_95]); (try simp only [hl299002_95]); (try simp only [hl314000_129]); (try simp only [hl314001_129]); (try simp only [hl314002_129]); exact bx BK313.out⟩, ⟨be w⟩⟩
      case rest =>
       clear HC189
       obtain ⟨kq, HA, HJ188, HO_314000, HO_314001, HO_314002, BK313, HB⟩ := hcut
       cases kq with
       | zero => exact absurd HA.out (by simp [laws_FnExactLooked.j9])
       | succ kj188 =>
        have H := HA.out
        clear HA
        simp only [laws_FnExactLooked.j9] at H
        obtain ⟨t364, A1910, H⟩ := Option.bind_eq_some_iff.mp H
        try dsimp only at H
        have A191 := As.mk A1910
        clear A1910
        by_cases c192 : t364 < 0
        ·
         rw [if_pos c192] at H
         have c192b0 : decide (t364 < 0) = true := decide_eq_true c192
         clear c192
         exact absurd H (by rw [hrt.out]; simp)
        rw [if_neg c192] at H
        have c192b0 : decide (t364 < 0) = false := decide_eq_false c192
        clear c192
        by_cases c193 : t364 = t332
        rotate_left
        ·
         rw [if_neg c193] at H
         have c193b0 : (t364 == t332) = false := beq_eq_false_iff_ne.mpr c193
         have c193b1 : (t364 != t332) = true := bne_iff_ne.mpr c193
         exact absurd H (by rw [hrt.out]; simp)
 
        rw [if_pos c193] at H
        have c193b0 : (t364 == t332) = true := beq_iff_eq.mpr c193
        have c193b1 : (t364 != t332) = false := bne_eq_false_iff_eq.mpr c193
        clear c193
        obtain rfl := Option.some.inj H
        obtain ⟨hcz194_0, hcz194_1, hcz194_2, hcz194_3, hcz194_4, hfz194_0, hfz194_1, hfz194_2, hfz194_3, hfz194_4⟩ := cl5 BK313.out
        go_wp2_with (first | ((with_reducible refine gate_callee (f := 29) rfl ?_); refine goesL_ (some 98) rfl rfl Try.func29 (by kernel_rfl) rfl #[.agg #[.slice Ao53 t333.length co53, .slice Ao55 t334.length co55, .slice Ao57 t335.length co57, .int .i64 t310, .int .i64 t311], .int .i64 1] rfl (by (try simp only [lm]); first | done | rfl | (simp only [List.length_drop, List.length_take]; rfl)) ?_; (with_reducible refine (laws_heldMemory.calls kj188 _ _ t333 _ _ t334 _ _ t335 t310 t311 1 t364 _ ?side1 ?side2 ?side3 ?side4 ?side5 ?side6 A191.out).mono ?_); (case side1 => repeat (first | exact (Kd.R_reads' HO_314000.out).2.2 | (with_reducible refine Kd.C_alloc ?_ _) | (with_reducible refine Kd.C_drewN ?_ _) | (with_reducible refine Kd.C_drew ?_))); (case side2 => exact (Kd.R_reads' HO_314000.out).2.1); (case side3 => repeat (first | exact (Kd.R_reads' HO_314001.out).2.2 | (with_reducible refine Kd.C_alloc ?_ _) | (with_reducible refine Kd.C_drewN ?_ _) | (with_reducible refine Kd.C_drew ?_))); (case side4 => exact (Kd.R_reads' HO_314001.out).2.1); (case side5 => repeat (first | exact (Kd.R_reads' HO_314002.out).2.2 | (with_reducible refine Kd.C_alloc ?_ _) | (with_reducible refine Kd.C_drewN ?_ _) | (with_reducible refine Kd.C_drew ?_))); (case side6 => exact (Kd.R_reads' HO_314002.out).2.1); rintro e w195 ⟨rfl, hb⟩; refine ⟨_, rfl, ?_⟩; replace HO_314000 := As.mk (Kd.R_below (by (with_reducible repeat (first | apply Kd.R_alloc | apply Kd.R_drewN | apply Kd.R_drew)); exact HO_314000.out) hb); replace HO_314001 := As.mk (Kd.R_below (by (with_reducible repeat (first | apply Kd.R_alloc | apply Kd.R_drewN | apply Kd.R_drew)); exact HO_314001.out) hb); replace HO_314002 := As.mk (Kd.R_below (by (with_reducible repeat (first | apply Kd.R_alloc | apply Kd.R_drewN | apply Kd.R_drew)); exact HO_314002.out) hb); replace HB := As.mk (below_step (be w) hb); (try clear hb); (try clear hb2); (try clear hk); (try clear hi)))
        go_ret
        exact ⟨by first | rfl | (simp [errW_none, errW_some] <;> rfl) | (simp [*, errW_none, errW_some] <;> rfl), be w⟩

end Go.Proofs.Ytnlhjblfemgggaa.PFnExactLooked
