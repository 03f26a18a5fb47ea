/- Written by a program of this session (a turned copy of the kit's print): a contract for each Go function. No condition beside those in each statement. -/
import Derived.Test.YtodicbbeaidibaaPFnExactFreshx0
import Derived.Test.YtodicbbeaidibaaPFnExactFreshx1
import Derived.Test.YtodicbbeaidibaaPFnExactFreshx2
import Derived.Test.YtodicbbeaidibaaPFnExactFreshx3
import Derived.Test.YtodicbbeaidibaaPFnExactFreshx5
import Derived.Test.YtodicbbeaidibaaPFnExactFreshx6
import Derived.Test.YtodicbbeaidibaaPFnExactFreshx7
namespace Go.Proofs.Ytodicbbeaidibaa.PFnExactFresh
open Go.RowKit Go.Proofs.YtodicbbeaidibaaW.PrintWords Go.Proofs.YtodicbbeaidibaaW.PrintLast Go.Proofs.YtodicbbeaidibaaW.PrintMore
attribute [local go_sem] max2_int min2_int max_two min_two max_three min_three max_four min_four   -- for this text's walks alone
set_option linter.unusedVariables false
set_option linter.unusedSimpArgs false

set_option maxHeartbeats 8000000 in
set_option maxRecDepth 100000 in
theorem laws_FnExactFresh.calls (k : Nat) (A0_0 : Option Addr) (c0_0 : Nat) (l0_0 : List (S98)) (A0_1 : Option Addr) (c0_1 : Nat) (l0_1 : List Int) (A0_2 : Option Addr) (c0_2 : Nat) (l0_2 : List Int) (a0_3 : Int) (a0_4 : Int) (a1 : Int) (r : Bool) (w : World) (hr0_0 : Kd.C k98 w A0_0 l0_0.length l0_0) (hc0_0 : l0_0.length ≤ c0_0) (hr0_1 : Kd.C (Kd.int .i64) w A0_1 l0_1.length l0_1) (hc0_1 : l0_1.length ≤ c0_1) (hr0_2 : Kd.C (Kd.int .i64) w A0_2 l0_2.length l0_2) (hc0_2 : l0_2.length ≤ c0_2) (h : laws_FnExactFresh.f k l0_0 l0_1 l0_2 a0_3 a0_4 a1 = some r) :
  Calls Try.prog 4 #[.agg #[.slice A0_0 l0_0.length c0_0, .slice A0_1 l0_1.length c0_1, .slice A0_2 l0_2.length c0_2, .int .i64 a0_3, .int .i64 a0_4], .int .i64 a1] w fun e w' => e = .returned (.bool r) ∧ Below w.heap.size w w' := by
 refine laws_FnExactFresh.callsP0.2 ⟨?_⟩ k A0_0 c0_0 l0_0 A0_1 c0_1 l0_1 A0_2 c0_2 l0_2 a0_3 a0_4 a1 r w hr0_0 hc0_0 hr0_1 hc0_1 hr0_2 hc0_2 h
 clear h hc0_2 hr0_2 hc0_1 hr0_1 hc0_0 hr0_0 w r a1 a0_4 a0_3 l0_2 c0_2 A0_2 l0_1 c0_1 A0_1 l0_0 c0_0 A0_0 k
 delta laws_FnExactFresh.callsP0
 dsimp only
 (set_option tactic.hygienic false in intros)
 (try rename World => wc)
 clear HC149
 try clear c1
 try clear c2
 try clear p2
 try clear c3
 try clear c4
 try clear c5
 try clear c6
 try clear c7
 try clear c8
 try clear c8b0
 try clear c9
 try clear c10
 try clear c11
 try clear c12
 try clear c13
 try clear c14
 try clear c15
 try clear c17
 try clear c18
 try clear c23
 try clear c24
 try clear c28
 try clear c34
 try clear c35
 try clear c36
 try clear c44
 try clear c45
 try clear c46
 try clear c47
 try clear c48
 try clear c52
 try clear c53
 try clear c54
 try clear c55
 try clear c58
 try clear c60
 try clear c61
 try clear c62
 try clear c63
 try clear c64
 try clear c66
 try clear c67
 try clear c68
 try clear c69
 try clear c72
 try clear c73
 try clear c74
 try clear c76
 try clear c77
 try clear c80
 try clear c81
 try clear c82
 try clear c83
 try clear c84
 try clear c86
 try clear c87
 try clear c88
 try clear c89
 try clear c93
 try clear c103
 try clear c106
 try clear c107
 try clear c108
 try clear c109
 try clear c110
 try clear c113
 try clear c113b0
 try clear c115
 try clear c117
 try clear c118
 try clear c119
 try clear c120
 try clear c121
 try clear c123
 try clear c124
 try clear c125
 try clear c126
 try clear c129
 try clear c130
 try clear c131
 try clear c133
 try clear c134
 try clear c137
 try clear c138
 try clear c139
 try clear c140
 try clear c141
 try clear c143
 try clear c144
 try clear c145
 try clear c146
 try clear c150
 try clear hcz111_0
 try clear hcz111_1
 try clear hcz111_2
 try clear hcz111_3
 try clear hcz111_4
 try clear hcz122_0
 try clear hcz122_1
 try clear hcz122_2
 try clear hcz122_3
 try clear hcz122_4
 try clear hcz127_0
 try clear hcz127_1
 try clear hcz127_2
 try clear hcz127_3
 try clear hcz127_4
 try clear hcz132_0
 try clear hcz132_1
 try clear hcz135_0
 try clear hcz135_1
 try clear hcz142_0
 try clear hcz142_1
 try clear hcz142_2
 try clear hcz142_3
 try clear hcz142_4
 try clear hcz147_0
 try clear hcz147_1
 try clear hcz147_2
 try clear hcz147_3
 try clear hcz147_4
 try clear hcz14_0
 try clear hcz14_1
 try clear hcz14_2
 try clear hcz14_3
 try clear hcz14_4
 try clear hcz25_0
 try clear hcz25_1
 try clear hcz25_2
 try clear hcz25_3
 try clear hcz25_4
 try clear hcz29_0
 try clear hcz29_1
 try clear hcz30_0
 try clear hcz30_1
 try clear hcz30_2
 try clear hcz30_3
 try clear hcz30_4
 try clear hcz37_0
 try clear hcz37_1
 try clear hcz37_2
 try clear hcz37_3
 try clear hcz37_4
 try clear hcz49_0
 try clear hcz49_1
 try clear hcz49_2
 try clear hcz49_3
 try clear hcz49_4
 try clear hcz56_0
 try clear hcz56_1
 try clear hcz65_0
 try clear hcz65_1
 try clear hcz65_2
 try clear hcz65_3
 try clear hcz65_4
 try clear hcz6_0
 try clear hcz6_1
 try clear hcz6_2
 try clear hcz6_3
 try clear hcz6_4
 try clear hcz70_0
 try clear hcz70_1
 try clear hcz70_2
 try clear hcz70_3
 try clear hcz70_4
 try clear hcz75_0
 try clear hcz75_1
 try clear hcz78_0
 try clear hcz78_1
 try clear hcz85_0
 try clear hcz85_1
 try clear hcz85_2
 try clear hcz85_3
 try clear hcz85_4
 try clear hcz90_0
 try clear hcz90_1
 try clear hcz90_2
 try clear hcz90_3
 try clear hcz90_4
 try clear hfz111_0
 try clear hfz111_1
 try clear hfz111_2
 try clear hfz111_3
 try clear hfz111_4
 try clear hfz122_0
 try clear hfz122_1
 try clear hfz122_2
 try clear hfz122_3
 try clear hfz122_4
 try clear hfz127_0
 try clear hfz127_1
 try clear hfz127_2
 try clear hfz127_3
 try clear hfz127_4
 try clear hfz132_0
 try clear hfz132_1
 try clear hfz135_0
 try clear hfz135_1
 try clear hfz142_0
 try clear hfz142_1
 try clear hfz142_2
 try clear hfz142_3
 try clear hfz142_4
 try clear hfz147_0
 try clear hfz147_1
 try clear hfz147_2
 try clear hfz147_3
 try clear hfz147_4
 try clear hfz14_0
 try clear hfz14_1
 try clear hfz14_2
 try clear hfz14_3
 try clear hfz14_4
 try clear hfz25_0
 try clear hfz25_1
 try clear hfz25_2
 try clear hfz25_3
 try clear hfz25_4
 try clear hfz29_0
 try clear hfz29_1
 try clear hfz30_0
 try clear hfz30_1
 try clear hfz30_2
 try clear hfz30_3
 try clear hfz30_4
 try clear hfz37_0
 try clear hfz37_1
 try clear hfz37_2
 try clear hfz37_3
 try clear hfz37_4
 try clear hfz49_0
 try clear hfz49_1
 try clear hfz49_2
 try clear hfz49_3
 try clear hfz49_4
 try clear hfz56_0
 try clear hfz56_1
 try clear hfz65_0
 try clear hfz65_1
 try clear hfz65_2
 try clear hfz65_3
 try clear hfz65_4
 try clear hfz6_0
 try clear hfz6_1
 try clear hfz6_2
 try clear hfz6_3
 try clear hfz6_4
 try clear hfz70_0
 try clear hfz70_1
 try clear hfz70_2
 try clear hfz70_3
 try clear hfz70_4
 try clear hfz75_0
 try clear hfz75_1
 try clear hfz78_0
 try clear hfz78_1
 try clear hfz85_0
 try clear hfz85_1
 try clear hfz85_2
 try clear hfz85_3
 try clear hfz85_4
 try clear hfz90_0
 try clear hfz90_1
 try clear hfz90_2
 try clear hfz90_3
 try clear hfz90_4
 try clear p2
 obtain ⟨kq, HA, HJ148, HO_269000, HO_269001, HO_269002, HO_282000, HO_282001, HO_282002, HO_296000, HO_296001, HO_296002, BK242, BK268, BK269, BK281, BK295, BK296, HB⟩ := hcut
 cases kq with
 | zero => exact absurd HA.out (by simp [laws_FnExactFresh.j5])
 | succ kj148 =>
  have H := HA.out
  clear HA
  simp only [laws_FnExactFresh.j5] at H
  replace H := Option.bind_eq_some_iff.mp H
  obtain ⟨⟨t317, t318, t319, t320⟩, A1510, H⟩ := H
  replace H : ((laws_heldMemory.f kj148 t318 t319 t320 t291 t292 1).bind fun t321 => (if t321 < 0 then (some false) else (laws_FnExactFresh.j6 kj148 a1 t317 t321 l0_0 l0_1 l0_2 a0_3 a0_4 t255 t258 t261 t264 t265 t266 t267 t318 t319 t320 t291 t292))) = some r := H
  have A151 := Aside0.mk A1510
  clear A1510
  replace H := Option.bind_eq_some_iff.mp H
  obtain ⟨t321, A1520, H⟩ := H
  replace H : (if t321 < 0 then (some false) else (laws_FnExactFresh.j6 kj148 a1 t317 t321 l0_0 l0_1 l0_2 a0_3 a0_4 t255 t258 t261 t264 t265 t266 t267 t318 t319 t320 t291 t292)) = some r := H
  have A152 := Aside0.mk A1520
  clear A1520
  have HC153 := Aside0.mk H
  clear H
  have hnb154 := NB295_242.out
  have hnc154 := NB242_295.out
  have hnb155 := NB295_268.out
  have hnc155 := NB268_295.out
  have hnb156 := NB295_269.out
  have hnc156 := NB269_295.out
  have hnb157 := NB295_281.out
  have hnc157 := NB281_295.out
  have hnb158 := NB295_296.out
  have hnc158 := NB296_295.out
  have hcz159_0 : wc.cell? ⟨gb295, 0, none⟩ = some (.slice Ao43 t282.length co43) := (blk_cell BK295.out 0).trans rfl
  have hcz159_1 : wc.cell? ⟨gb295, 1, none⟩ = some (.slice Ao50 t285.length co50) := (blk_cell BK295.out 1).trans rfl
  have hcz159_2 : wc.cell? ⟨gb295, 2, none⟩ = some (.slice Ao51 t288.length co51) := (blk_cell BK295.out 2).trans rfl
  have hcz159_3 : wc.cell? ⟨gb295, 3, none⟩ = some (.int .i64 t291) := (blk_cell BK295.out 3).trans rfl
  have hcz159_4 : wc.cell? ⟨gb295, 4, none⟩ = some (.int .i64 t292) := (blk_cell BK295.out 4).trans rfl
  have hfz159_0 := blk_frozen BK295.out 0
  have hfz159_1 := blk_frozen BK295.out 1
  have hfz159_2 := blk_frozen BK295.out 2
  have hfz159_3 := blk_frozen BK295.out 3
  have hfz159_4 := blk_frozen BK295.out 4
  go_upto_if 75 with (first | ((with_reducible refine gate_callee (f := 15) rfl ?_); refine goesL_ (some 70) rfl rfl Try.func15 (by kernel_rfl) rfl #[.agg #[.slice Ao43 t282.length co43, .slice Ao50 t285.length co50, .slice Ao51 t288.length co51, .int .i64 t291, .int .i64 t292], .int .i64 1] rfl (by (try simp only [List.map_toArray, List.map_cons, List.map_nil]); first | done | rfl | (simp only [List.length_drop, List.length_take]; rfl)) ?_; (with_reducible refine (laws_markMemory.calls kj148 (fun k_ => some k_ = (.slice Ao43 t282.length co43 : Value).ownBlock) (.slice Ao43 t282.length co43) t282 (fun k_ => some k_ = (.slice Ao50 t285.length co50 : Value).ownBlock) (.slice Ao50 t285.length co50) t285 (fun k_ => some k_ = (.slice Ao51 t288.length co51 : Value).ownBlock) (.slice Ao51 t288.length co51) t288 t291 t292 1 t317 t318 t319 t320 w _ ?side1 ?side2 ?side3 ?side4 ?side5 ?side6 A151.out).mono ?_); (case side1 => repeat (first | (with_reducible first | exact HB.out | apply below_alloc | apply pw_below_drewN | apply below_drew1 | refine below_set ?_ GE242.out | refine below_set ?_ GE268.out | refine below_set ?_ GE269.out | refine below_set ?_ GE281.out | refine below_set ?_ GE295.out | refine below_set ?_ GE296.out) | exact HB.out)); (case side2 => exact Kd.R_tight rfl HO_296000.out); (case side3 => exact Kd.R_tight rfl HO_296001.out); (case side4 => exact fun k_ e_ => (HO_296001.out.1 k_ e_.symm).2.2.2.2); (case side5 => exact Kd.R_tight rfl HO_296002.out); (case side6 => exact fun k_ e_ => (HO_296002.out.1 k_ e_.symm).2.2.2.2); rintro e w160 ⟨rfl, hy0, hy1, hy2, hb, hkp⟩; refine ⟨_, rfl, ?_⟩; have n0_ := Aside0.mk (Kd.R_mono (ok' := fun k_ => some k_ ≠ (.slice Ao33 t312.length co33 : Value).ownBlock ∧ some k_ ≠ (.slice Ao43 t282.length co43 : Value).ownBlock) (Kd.R_keptB ((Kd.R_apart' (Kd.R_apart' HO_269000.out (Kd.R_typed HO_296001.out) (by decide)) (Kd.R_typed HO_296002.out) (by decide))) hkp (fun k_ hk_ hs_ => Or.elim hs_ (fun e_ => (hk_.1.1.2) e_) (fun e_ => Or.elim e_ (fun e_ => (hk_.1.2) e_) (fun e_ => (hk_.2) e_)))) (fun k_ hk_ => ⟨hk_.1.1.1.1, hk_.1.1.1.2⟩)); have n1_ := Aside0.mk (Kd.R_mono (ok' := fun k_ => some k_ ≠ (.slice Ao27 t261.length co27 : Value).ownBlock ∧ some k_ ≠ (.slice Ao38 t313.length co38 : Value).ownBlock ∧ some k_ ≠ (.slice Ao39 t314.length co39 : Value).ownBlock ∧ some k_ ≠ (.slice Ao50 t285.length co50 : Value).ownBlock ∧ some k_ ≠ (.slice Ao51 t288.length co51 : Value).ownBlock) (Kd.R_keptB ((Kd.R_apart' HO_269001.out (Kd.R_typed HO_296000.out) (by decide))) hkp (fun k_ hk_ hs_ => Or.elim hs_ (fun e_ => (hk_.2) e_) (fun e_ => Or.elim e_ (fun e_ => (hk_.1.2.2.2.1) e_) (fun e_ => (hk_.1.2.2.2.2) e_)))) (fun k_ hk_ => ⟨hk_.1.1.1, hk_.1.1.2.1, hk_.1.1.2.2.1, hk_.1.1.2.2.2.1, hk_.1.1.2.2.2.2⟩)); have n2_ := Aside0.mk (Kd.R_mono (ok' := fun k_ => some k_ ≠ (.slice Ao26 t258.length co26 : Value).ownBlock ∧ some k_ ≠ (.slice Ao38 t313.length co38 : Value).ownBlock ∧ some k_ ≠ (.slice Ao39 t314.length co39 : Value).ownBlock ∧ some k_ ≠ (.slice Ao50 t285.length co50 : Value).ownBlock ∧ some k_ ≠ (.slice Ao51 t288.length co51 : Value).ownBlock) (Kd.R_keptB ((Kd.R_apart' HO_269002.out (Kd.R_typed HO_296000.out) (by decide))) hkp (fun k_ hk_ hs_ => Or.elim hs_ (fun e_ => (hk_.2) e_) (fun e_ => Or.elim e_ (fun e_ => (hk_.1.2.2.2.1) e_) (fun e_ => (hk_.1.2.2.2.2) e_)))) (fun k_ hk_ => ⟨hk_.1.1.1, hk_.1.1.2.1, hk_.1.1.2.2.1, hk_.1.1.2.2.2.1, hk_.1.1.2.2.2.2⟩)); have n3_ := Aside0.mk (Kd.R_mono (ok' := fun k_ => some k_ ≠ (.slice Ao22 t255.length co22 : Value).ownBlock ∧ some k_ ≠ (.slice Ao43 t282.length co43 : Value).ownBlock) (Kd.R_keptB ((Kd.R_apart' (Kd.R_apart' HO_282000.out (Kd.R_typed HO_296001.out) (by decide)) (Kd.R_typed HO_296002.out) (by decide))) hkp (fun k_ hk_ hs_ => Or.elim hs_ (fun e_ => (hk_.1.1.2) e_) (fun e_ => Or.elim e_ (fun e_ => (hk_.1.2) e_) (fun e_ => (hk_.2) e_)))) (fun k_ hk_ => ⟨hk_.1.1.1.1, hk_.1.1.1.2⟩)); have n4_ := Aside0.mk (Kd.R_mono (ok' := fun k_ => some k_ ≠ (.slice Ao26 t258.length co26 : Value).ownBlock ∧ some k_ ≠ (.slice Ao27 t261.length co27 : Value).ownBlock ∧ some k_ ≠ (.slice Ao39 t314.length co39 : Value).ownBlock ∧ some k_ ≠ (.slice Ao50 t285.length co50 : Value).ownBlock ∧ some k_ ≠ (.slice Ao51 t288.length co51 : Value).ownBlock) (Kd.R_keptB ((Kd.R_apart' HO_282001.out (Kd.R_typed HO_296000.out) (by decide))) hkp (fun k_ hk_ hs_ => Or.elim hs_ (fun e_ => (hk_.2) e_) (fun e_ => Or.elim e_ (fun e_ => (hk_.1.2.2.2.1) e_) (fun e_ => (hk_.1.2.2.2.2) e_)))) (fun k_ hk_ => ⟨hk_.1.1.1, hk_.1.1.2.1, hk_.1.1.2.2.1, hk_.1.1.2.2.2.1, hk_.1.1.2.2.2.2⟩)); have n5_ := Aside0.mk (Kd.R_mono (ok' := fun k_ => some k_ ≠ (.slice Ao26 t258.length co26 : Value).ownBlock ∧ some k_ ≠ (.slice Ao27 t261.length co27 : Value).ownBlock ∧ some k_ ≠ (.slice Ao38 t313.length co38 : Value).ownBlock ∧ some k_ ≠ (.slice Ao50 t285.length co50 : Value).ownBlock ∧ some k_ ≠ (.slice Ao51 t288.length co51 : Value).ownBlock) (Kd.R_keptB ((Kd.R_apart' HO_282002.out (Kd.R_typed HO_296000.out) (by decide))) hkp (fun k_ hk_ hs_ => Or.elim hs_ (fun e_ => (hk_.2) e_) (fun e_ => Or.elim e_ (fun e_ => (hk_.1.2.2.2.1) e_) (fun e_ => (hk_.1.2.2.2.2) e_)))) (fun k_ hk_ => ⟨hk_.1.1.1, hk_.1.1.2.1, hk_.1.1.2.2.1, hk_.1.1.2.2.2.1, hk_.1.1.2.2.2.2⟩)); have n6_ := Aside0.mk (Kd.R_reok rfl hy0 (fun k_ e_ => HO_296000.out.1 k_ e_)); have n7_ := Aside0.mk (Kd.R_reok rfl hy1 (fun k_ e_ => HO_296001.out.1 k_ e_)); have n8_ := Aside0.mk (Kd.R_reok rfl hy2 (fun k_ e_ => HO_296002.out.1 k_ e_)); have n9_ := Aside0.mk (blk_kept (by (with_reducible repeat (first | refine blk_drewN ?_ _ | refine blk_drew ?_ | refine blk_alloc ?_ _)); exact BK242.out) hkp (fun hs_ => Or.elim hs_ (fun e_ => (fun e_ => (Kd.R_ne HO_296000.out BK242.out (by decide)) e_) e_) (fun e_ => Or.elim e_ (fun e_ => (fun e_ => (Kd.R_ne HO_296001.out BK242.out (by decide)) e_) e_) (fun e_ => (fun e_ => (Kd.R_ne HO_296002.out BK242.out (by decide)) e_) e_)))); have n10_ := Aside0.mk (blk_kept (by (with_reducible repeat (first | refine blk_drewN ?_ _ | refine blk_drew ?_ | refine blk_alloc ?_ _)); exact BK268.out) hkp (fun hs_ => Or.elim hs_ (fun e_ => (fun e_ => (Kd.R_ne HO_296000.out BK268.out (by decide)) e_) e_) (fun e_ => Or.elim e_ (fun e_ => (fun e_ => (Kd.R_ne HO_296001.out BK268.out (by decide)) e_) e_) (fun e_ => (fun e_ => (Kd.R_ne HO_296002.out BK268.out (by decide)) e_) e_)))); have n11_ := Aside0.mk (blk_kept (by (with_reducible repeat (first | refine blk_drewN ?_ _ | refine blk_drew ?_ | refine blk_alloc ?_ _)); exact BK269.out) hkp (fun hs_ => Or.elim hs_ (fun e_ => (fun e_ => (Kd.R_ne HO_296000.out BK269.out (by decide)) e_) e_) (fun e_ => Or.elim e_ (fun e_ => (fun e_ => (Kd.R_ne HO_296001.out BK269.out (by decide)) e_) e_) (fun e_ => (fun e_ => (Kd.R_ne HO_296002.out BK269.out (by decide)) e_) e_)))); have n12_ := Aside0.mk (blk_kept (by (with_reducible repeat (first | refine blk_drewN ?_ _ | refine blk_drew ?_ | refine blk_alloc ?_ _)); exact BK281.out) hkp (fun hs_ => Or.elim hs_ (fun e_ => (fun e_ => (Kd.R_ne HO_296000.out BK281.out (by decide)) e_) e_) (fun e_ => Or.elim e_ (fun e_ => (fun e_ => (Kd.R_ne HO_296001.out BK281.out (by decide)) e_) e_) (fun e_ => (fun e_ => (Kd.R_ne HO_296002.out BK281.out (by decide)) e_) e_)))); have n13_ := Aside0.mk (blk_kept (by (with_reducible repeat (first | refine blk_drewN ?_ _ | refine blk_drew ?_ | refine blk_alloc ?_ _)); exact BK295.out) hkp (fun hs_ => Or.elim hs_ (fun e_ => (fun e_ => (Kd.R_ne HO_296000.out BK295.out (by decide)) e_) e_) (fun e_ => Or.elim e_ (fun e_ => (fun e_ => (Kd.R_ne HO_296001.out BK295.out (by decide)) e_) e_) (fun e_ => (fun e_ => (Kd.R_ne HO_296002.out BK295.out (by decide)) e_) e_)))); have n14_ := Aside0.mk (blk_kept (by (with_reducible repeat (first | refine blk_drewN ?_ _ | refine blk_drew ?_ | refine blk_alloc ?_ _)); exact BK296.out) hkp (fun hs_ => Or.elim hs_ (fun e_ => (fun e_ => (Kd.R_ne HO_296000.out BK296.out (by decide)) e_) e_) (fun e_ => Or.elim e_ (fun e_ => (fun e_ => (Kd.R_ne HO_296001.out BK296.out (by decide)) e_) e_) (fun e_ => (fun e_ => (Kd.R_ne HO_296002.out BK296.out (by decide)) e_) e_)))); have n15_ := Aside0.mk (hb); clear HO_269000; clear HO_269001; clear HO_269002; clear HO_282000; clear HO_282001; clear HO_282002; clear HO_296000; clear HO_296001; clear HO_296002; clear BK242; clear BK268; clear BK269; clear BK281; clear BK295; clear BK296; clear HB; have HO_269000 := n0_; have HO_269001 := n1_; have HO_269002 := n2_; have HO_282000 := n3_; have HO_282001 := n4_; have HO_282002 := n5_; have HO_296000 := n6_; have HO_296001 := n7_; have HO_296002 := n8_; have BK242 := n9_; have BK268 := n10_; have BK269 := n11_; have BK281 := n12_; have BK295 := n13_; have BK296 := n14_; have HB := n15_; clear n0_ n1_ n2_ n3_ n4_ n5_ n6_ n7_ n8_ n9_ n10_ n11_ n12_ n13_ n14_ n15_; (try clear hb); (try clear hkp); (try clear hy0); (try clear hy1); (try clear hy2); have hcz161_0 : w160.cell? ⟨gb295, 0, none⟩ = some (.slice Ao43 t282.length co43) := (blk_cell BK295.out 0).trans rfl; have hcz161_1 : w160.cell? ⟨gb295, 1, none⟩ = some (.slice Ao50 t285.length co50) := (blk_cell BK295.out 1).trans rfl; have hcz161_2 : w160.cell? ⟨gb295, 2, none⟩ = some (.slice Ao51 t288.length co51) := (blk_cell BK295.out 2).trans rfl; have hcz161_3 : w160.cell? ⟨gb295, 3, none⟩ = some (.int .i64 t291) := (blk_cell BK295.out 3).trans rfl; have hcz161_4 : w160.cell? ⟨gb295, 4, none⟩ = some (.int .i64 t292) := (blk_cell BK295.out 4).trans rfl; have hfz161_0 := blk_frozen BK295.out 0; have hfz161_1 := blk_frozen BK295.out 1; have hfz161_2 := blk_frozen BK295.out 2; have hfz161_3 := blk_frozen BK295.out 3; have hfz161_4 := blk_frozen BK295.out 4) | ((with_reducible refine gate_callee (f := 16) rfl ?_); refine goesL_ (some 73) rfl rfl Try.func16 (by kernel_rfl) rfl #[.agg #[.slice Ao43 t318.length co43, .slice Ao50 t319.length co50, .slice Ao51 t320.length co51, .int .i64 t291, .int .i64 t292], .int .i64 1] rfl (by (try simp only [List.map_toArray, List.map_cons, List.map_nil]); first | done | (rw [show t318.length = t282.length from (Kd.R_reads' HO_296000.out).1.symm, show t319.length = t285.length from (Kd.R_reads' HO_296001.out).1.symm, show t320.length = t288.length from (Kd.R_reads' HO_296002.out).1.symm] <;> rfl) | rfl | (simp only [List.length_drop, List.length_take]; rfl)) ?_; (with_reducible refine (laws_heldMemory.calls kj148 _ _ t318 _ _ t319 _ _ t320 t291 t292 1 t321 _ ?side1 ?side2 ?side3 ?side4 ?side5 ?side6 A152.out).mono ?_); (case side1 => repeat (first | exact (Kd.R_reads' HO_296000.out).2.2 | (with_reducible refine Kd.C_alloc ?_ _) | (with_reducible refine Kd.C_drewN ?_ _) | (with_reducible refine Kd.C_drew ?_))); (case side2 => rw [show t318.length = t282.length from (Kd.R_reads' HO_296000.out).1.symm]; exact (Kd.R_reads' HO_296000.out).2.1); (case side3 => repeat (first | exact (Kd.R_reads' HO_296001.out).2.2 | (with_reducible refine Kd.C_alloc ?_ _) | (with_reducible refine Kd.C_drewN ?_ _) | (with_reducible refine Kd.C_drew ?_))); (case side4 => rw [show t319.length = t285.length from (Kd.R_reads' HO_296001.out).1.symm]; exact (Kd.R_reads' HO_296001.out).2.1); (case side5 => repeat (first | exact (Kd.R_reads' HO_296002.out).2.2 | (with_reducible refine Kd.C_alloc ?_ _) | (with_reducible refine Kd.C_drewN ?_ _) | (with_reducible refine Kd.C_drew ?_))); (case side6 => rw [show t320.length = t288.length from (Kd.R_reads' HO_296002.out).1.symm]; exact (Kd.R_reads' HO_296002.out).2.1); rintro e w162 ⟨rfl, hb⟩; refine ⟨_, rfl, ?_⟩; have n0_ := Aside0.mk (Kd.R_below (by (with_reducible repeat (first | apply Kd.R_alloc | apply Kd.R_drewN | apply Kd.R_drew)); exact HO_269000.out) hb); have n1_ := Aside0.mk (Kd.R_below (by (with_reducible repeat (first | apply Kd.R_alloc | apply Kd.R_drewN | apply Kd.R_drew)); exact HO_269001.out) hb); have n2_ := Aside0.mk (Kd.R_below (by (with_reducible repeat (first | apply Kd.R_alloc | apply Kd.R_drewN | apply Kd.R_drew)); exact HO_269002.out) hb); have n3_ := Aside0.mk (Kd.R_below (by (with_reducible repeat (first | apply Kd.R_alloc | apply Kd.R_drewN | apply Kd.R_drew)); exact HO_282000.out) hb); have n4_ := Aside0.mk (Kd.R_below (by (with_reducible repeat (first | apply Kd.R_alloc | apply Kd.R_drewN | apply Kd.R_drew)); exact HO_282001.out) hb); have n5_ := Aside0.mk (Kd.R_below (by (with_reducible repeat (first | apply Kd.R_alloc | apply Kd.R_drewN | apply Kd.R_drew)); exact HO_282002.out) hb); have n6_ := Aside0.mk (Kd.R_below (by (with_reducible repeat (first | apply Kd.R_alloc | apply Kd.R_drewN | apply Kd.R_drew)); exact HO_296000.out) hb); have n7_ := Aside0.mk (Kd.R_below (by (with_reducible repeat (first | apply Kd.R_alloc | apply Kd.R_drewN | apply Kd.R_drew)); exact HO_296001.out) hb); have n8_ := Aside0.mk (Kd.R_below (by (with_reducible repeat (first | apply Kd.R_alloc | apply Kd.R_drewN | apply Kd.R_drew)); exact HO_296002.out) hb); have n9_ := Aside0.mk (blk_below (g := gb242) (o := .cells #[.slice A0_0 l0_0.length c0_0, .slice A0_1 l0_1.length c0_1, .slice A0_2 l0_2.length c0_2, .int .i64 a0_3, .int .i64 a0_4] 25 (0, 0)) (by (with_reducible repeat (first | refine blk_drewN ?_ _ | refine blk_drew ?_ | refine blk_alloc ?_ _)); exact BK242.out) hb); have n10_ := Aside0.mk (blk_below (g := gb268) (o := .cells #[.slice Ao22 t255.length co22, .slice Ao26 t258.length co26, .slice Ao27 t261.length co27, .int .i64 t264, .int .i64 t265] 29 (0, 0)) (by (with_reducible repeat (first | refine blk_drewN ?_ _ | refine blk_drew ?_ | refine blk_alloc ?_ _)); exact BK268.out) hb); have n11_ := Aside0.mk (blk_below (g := gb269) (o := .cells #[.int .i64 t266, .int .i64 t267] 37 (0, 0)) (by (with_reducible repeat (first | refine blk_drewN ?_ _ | refine blk_drew ?_ | refine blk_alloc ?_ _)); exact BK269.out) hb); have n12_ := Aside0.mk (blk_below (g := gb281) (o := .cells #[.slice Ao33 t312.length co33, .slice Ao38 t313.length co38, .slice Ao39 t314.length co39, .int .i64 t279, .int .i64 t280] 29 (0, 0)) (by (with_reducible repeat (first | refine blk_drewN ?_ _ | refine blk_drew ?_ | refine blk_alloc ?_ _)); exact BK281.out) hb); have n13_ := Aside0.mk (blk_below (g := gb295) (o := .cells #[.slice Ao43 t282.length co43, .slice Ao50 t285.length co50, .slice Ao51 t288.length co51, .int .i64 t291, .int .i64 t292] 29 (0, 0)) (by (with_reducible repeat (first | refine blk_drewN ?_ _ | refine blk_drew ?_ | refine blk_alloc ?_ _)); exact BK295.out) hb); have n14_ := Aside0.mk (blk_below (g := gb296) (o := .cells #[.int .i64 t293, .int .i64 t294] 37 (0, 0)) (by (with_reducible repeat (first | refine blk_drewN ?_ _ | refine blk_drew ?_ | refine blk_alloc ?_ _)); exact BK296.out) hb); have n15_ := Aside0.mk (below_step (by repeat (first | (with_reducible first | exact HB.out | apply below_alloc | apply pw_below_drewN | apply below_drew1 | refine below_set ?_ GE242.out | refine below_set ?_ GE268.out | refine below_set ?_ GE269.out | refine below_set ?_ GE281.out | refine below_set ?_ GE295.out | refine below_set ?_ GE296.out) | exact HB.out)) hb); clear HO_269000; clear HO_269001; clear HO_269002; clear HO_282000; clear HO_282001; clear HO_282002; clear HO_296000; clear HO_296001; clear HO_296002; clear BK242; clear BK268; clear BK269; clear BK281; clear BK295; clear BK296; clear HB; have HO_269000 := n0_; have HO_269001 := n1_; have HO_269002 := n2_; have HO_282000 := n3_; have HO_282001 := n4_; have HO_282002 := n5_; have HO_296000 := n6_; have HO_296001 := n7_; have HO_296002 := n8_; have BK242 := n9_; have BK268 := n10_; have BK269 := n11_; have BK281 := n12_; have BK295 := n13_; have BK296 := n14_; have HB := n15_; clear n0_ n1_ n2_ n3_ n4_ n5_ n6_ n7_ n8_ n9_ n10_ n11_ n12_ n13_ n14_ n15_; (try clear hb); (try clear hb2); (try clear hk); (try clear hi)))
  (try simp only [Act.put, List.setIfInBounds_toArray, List.set_cons_zero, List.set_cons_succ])
  go_cut [] (fun wc => ∃ (kq : Nat), Aside0 (laws_FnExactFresh.j6 kq a1 t317 t321 l0_0 l0_1 l0_2 a0_3 a0_4 t255 t258 t261 t264 t265 t266 t267 t318 t319 t320 t291 t292 = some r) ∧ Aside0 (kq ≤ kj148) ∧ Aside0 (Kd.R k96 96 wc w.heap.size (fun k_ => some k_ ≠ ((.slice Ao33 t312.length co33) : Value).ownBlock ∧ some k_ ≠ ((.slice Ao43 t282.length co43) : Value).ownBlock) (.slice Ao22 t255.length co22) t255) ∧ Aside0 (Kd.R (Kd.int .i64) 3 wc w.heap.size (fun k_ => some k_ ≠ ((.slice Ao27 t261.length co27) : Value).ownBlock ∧ some k_ ≠ ((.slice Ao38 t313.length co38) : Value).ownBlock ∧ some k_ ≠ ((.slice Ao39 t314.length co39) : Value).ownBlock ∧ some k_ ≠ ((.slice Ao50 t285.length co50) : Value).ownBlock ∧ some k_ ≠ ((.slice Ao51 t288.length co51) : Value).ownBlock) (.slice Ao26 t258.length co26) t258) ∧ Aside0 (Kd.R (Kd.int .i64) 3 wc w.heap.size (fun k_ => some k_ ≠ ((.slice Ao26 t258.length co26) : Value).ownBlock ∧ some k_ ≠ ((.slice Ao38 t313.length co38) : Value).ownBlock ∧ some k_ ≠ ((.slice Ao39 t314.length co39) : Value).ownBlock ∧ some k_ ≠ ((.slice Ao50 t285.length co50) : Value).ownBlock ∧ some k_ ≠ ((.slice Ao51 t288.length co51) : Value).ownBlock) (.slice Ao27 t261.length co27) t261) ∧ Aside0 (Kd.R k96 96 wc w.heap.size (fun k_ => some k_ ≠ ((.slice Ao22 t255.length co22) : Value).ownBlock ∧ some k_ ≠ ((.slice Ao43 t282.length co43) : Value).ownBlock) (.slice Ao33 t312.length co33) t312) ∧ Aside0 (Kd.R (Kd.int .i64) 3 wc w.heap.size (fun k_ => some k_ ≠ ((.slice Ao26 t258.length co26) : Value).ownBlock ∧ some k_ ≠ ((.slice Ao27 t261.length co27) : Value).ownBlock ∧ some k_ ≠ ((.slice Ao39 t314.length co39) : Value).ownBlock ∧ some k_ ≠ ((.slice Ao50 t285.length co50) : Value).ownBlock ∧ some k_ ≠ ((.slice Ao51 t288.length co51) : Value).ownBlock) (.slice Ao38 t313.length co38) t313) ∧ Aside0 (Kd.R (Kd.int .i64) 3 wc w.heap.size (fun k_ => some k_ ≠ ((.slice Ao26 t258.length co26) : Value).ownBlock ∧ some k_ ≠ ((.slice Ao27 t261.length co27) : Value).ownBlock ∧ some k_ ≠ ((.slice Ao38 t313.length co38) : Value).ownBlock ∧ some k_ ≠ ((.slice Ao50 t285.length co50) : Value).ownBlock ∧ some k_ ≠ ((.slice Ao51 t288.length co51) : Value).ownBlock) (.slice Ao39 t314.length co39) t314) ∧ Aside0 (Kd.R k96 96 wc w.heap.size (fun k_ => some k_ ≠ ((.slice Ao22 t255.length co22) : Value).ownBlock ∧ some k_ ≠ ((.slice Ao33 t312.length co33) : Value).ownBlock) (.slice Ao43 t282.length co43) t318) ∧ Aside0 (Kd.R (Kd.int .i64) 3 wc w.heap.size (fun k_ => some k_ ≠ ((.slice Ao26 t258.length co26) : Value).ownBlock ∧ some k_ ≠ ((.slice Ao27 t261.length co27) : Value).ownBlock ∧ some k_ ≠ ((.slice Ao38 t313.length co38) : Value).ownBlock ∧ some k_ ≠ ((.slice Ao39 t314.length co39) : Value).ownBlock ∧ some k_ ≠ ((.slice Ao51 t288.length co51) : Value).ownBlock) (.slice Ao50 t285.length co50) t319) ∧ Aside0 (Kd.R (Kd.int .i64) 3 wc w.heap.size (fun k_ => some k_ ≠ ((.slice Ao26 t258.length co26) : Value).ownBlock ∧ some k_ ≠ ((.slice Ao27 t261.length co27) : Value).ownBlock ∧ some k_ ≠ ((.slice Ao38 t313.length co38) : Value).ownBlock ∧ some k_ ≠ ((.slice Ao39 t314.length co39) : Value).ownBlock ∧ some k_ ≠ ((.slice Ao50 t285.length co50) : Value).ownBlock) (.slice Ao51 t288.length co51) t320) ∧ Aside0 (wc.heap[gb242]? = some (.cells #[(.slice A0_0 l0_0.length c0_0), (.slice A0_1 l0_1.length c0_1), (.slice A0_2 l0_2.length c0_2), .int .i64 a0_3, .int .i64 a0_4] 25 (0, 0))) ∧ Aside0 (wc.heap[gb268]? = some (.cells #[(.slice Ao22 t255.length co22), (.slice Ao26 t258.length co26), (.slice Ao27 t261.length co27), .int .i64 t264, .int .i64 t265] 29 (0, 0))) ∧ Aside0 (wc.heap[gb269]? = some (.cells #[.int .i64 t266, .int .i64 t267] 37 (0, 0))) ∧ Aside0 (wc.heap[gb281]? = some (.cells #[(.slice Ao33 t312.length co33), (.slice Ao38 t313.length co38), (.slice Ao39 t314.length co39), .int .i64 t279, .int .i64 t280] 29 (0, 0))) ∧ Aside0 (wc.heap[gb295]? = some (.cells #[(.slice Ao43 t282.length co43), (.slice Ao50 t285.length co50), (.slice Ao51 t288.length co51), .int .i64 t291, .int .i64 t292] 29 (0, 0))) ∧ Aside0 (wc.heap[gb296]? = some (.cells #[.int .i64 t293, .int .i64 t294] 37 (0, 0))) ∧ Aside0 (Below w.heap.size w wc))
  case first =>
   have H := HC153.out
   clear HC153
   by_cases c163 : t321 < 0
   ·
    rw [if_pos c163] at H
    have c163b0 : decide (t321 < 0) = true := decide_eq_true c163
    clear c163
    (first | rw [c163b0] | (simp only [i64_w, i32_w]; rw [c163b0]) | skip)
    obtain rfl := Option.some.inj H
    go_wp2
    go_ret
    exact ⟨by first | rfl | (simp [errW_none, errW_some] <;> rfl) | (simp [*, errW_none, errW_some] <;> rfl), by repeat (first | (with_reducible first | exact HB.out | apply below_alloc | apply pw_below_drewN | apply below_drew1 | refine below_set ?_ GE242.out | refine below_set ?_ GE268.out | refine below_set ?_ GE269.out | refine below_set ?_ GE281.out | refine below_set ?_ GE295.out | refine below_set ?_ GE296.out) | exact HB.out)⟩
   ·
    rw [if_neg c163] at H
    have c163b0 : decide (t321 < 0) = false := decide_eq_false c163
    clear c163
    (first | rw [c163b0] | (simp only [i64_w, i32_w]; rw [c163b0]) | skip)
    have H' := Aside0.mk H
    clear H
    go_wp2
    go_meet
    case rel => exact ⟨_, H', ⟨by have := HJ3.out; have := HJ12.out; have := HJ91.out; have := HJ95.out; have := HJ104.out; have := HJ148.out; first | omega | exact Nat.le_refl _⟩, ⟨by (try simp only [hl282000_104]); (try simp only [hl282001_104]); (try simp only [hl282002_104]); (with_reducible repeat (first | apply Kd.R_alloc | apply Kd.R_drewN | apply Kd.R_drew)); exact HO_269000.out⟩, ⟨by (try simp only [hl282000_104]); (try simp only [hl282001_104]); (try simp only [hl282002_104]); (with_reducible repeat (first | apply Kd.R_alloc | apply Kd.R_drewN | apply Kd.R_drew)); exact HO_269001.out⟩, ⟨by (try simp only [hl282000_104]); (try simp only [hl282001_104]); (try simp only [hl282002_104]); (with_reducible repeat (first | apply Kd.R_alloc | apply Kd.R_drewN | apply Kd.R_drew)); exact HO_269002.out⟩, ⟨by (try simp only [hl282000_104]); (try simp only [hl282001_104]); (try simp only [hl282002_104]); (with_reducible repeat (first | apply Kd.R_alloc | apply Kd.R_drewN | apply Kd.R_drew)); exact HO_282000.out⟩, ⟨by (try simp only [hl282000_104]); (try simp only [hl282001_104]); (try simp only [hl282002_104]); (with_reducible repeat (first | apply Kd.R_alloc | apply Kd.R_drewN | apply Kd.R_drew)); exact HO_282001.out⟩, ⟨by (try simp only [hl282000_104]); (try simp only [hl282001_104]); (try simp only [hl282002_104]); (with_reducible repeat (first | apply Kd.R_alloc | apply Kd.R_drewN | apply Kd.R_drew)); exact HO_282002.out⟩, ⟨by (try simp only [hl282000_104]); (try simp only [hl282001_104]); (try simp only [hl282002_104]); (with_reducible repeat (first | apply Kd.R_alloc | apply Kd.R_drewN | apply Kd.R_drew)); exact HO_296000.out⟩, ⟨by (try simp only [hl282000_104]); (try simp only [hl282001_104]); (try simp only [hl282002_104]); (with_reducible repeat (first | apply Kd.R_alloc | apply Kd.R_drewN | apply Kd.R_drew)); exact HO_296001.out⟩, ⟨by (try simp only [hl282000_104]); (try simp only [hl282001_104]); (try simp only [hl282002_104]); (with_reducible repeat (first | apply Kd.R_alloc | apply Kd.R_drewN | apply Kd.R_drew)); exact HO_296002.out⟩, ⟨by (try simp only [hl282000_104]); (try simp only [hl282001_104]); (try simp only [hl282002_104]); (with_reducible repeat (first | refine blk_drewN ?_ _ | refine blk_drew ?_ | refine blk_alloc ?_ _)); exact BK242.out⟩, ⟨by (try simp only [hl282000_104]); (try simp only [hl282001_104]); (try simp only [hl282002_104]); (with_reducible repeat (first | refine blk_drewN ?_ _ | refine blk_drew ?_ | refine blk_alloc ?_ _)); exact BK268.out⟩, ⟨by (try simp only [hl282000_104]); (try simp only [hl282001_104]); (try simp only [hl282002_104]); (with_reducible repeat (first | refine blk_drewN ?_ _ | refine blk_drew ?_ | refine blk_alloc ?_ _)); exact BK269.out⟩, ⟨by (try simp only [hl282000_104]); (try simp only [hl282001_104]); (try simp only [hl282002_104]); (with_reducible repeat (first | refine blk_drewN ?_ _ | refine blk_drew ?_ | refine blk_alloc ?_ _)); exact BK281.out⟩, ⟨by (try simp only [hl282000_104]); (try simp only [hl282001_104]); (try simp only [hl282002_104]); (with_reducible repeat (first | refine blk_drewN ?_ _ | refine blk_drew ?_ | refine blk_alloc ?_ _)); exact BK295.out⟩, ⟨by (try simp only [hl282000_104]); (try simp only [hl282001_104]); (try simp only [hl282002_104]); (with_reducible repeat (first | refine blk_drewN ?_ _ | refine blk_drew ?_ | refine blk_alloc ?_ _)); exact BK296.out⟩, ⟨by repeat (first | (with_reducible first | exact HB.out | apply below_alloc | apply pw_below_drewN | apply below_drew1 | refine below_set ?_ GE242.out | refine below_set ?_ GE268.out | refine below_set ?_ GE269.out | refine below_set ?_ GE281.out | refine below_set ?_ GE295.out | refine below_set ?_ GE296.out) | exact HB.out)⟩⟩
  case rest =>
   clear HC153
   try clear c1
   try clear c2
   try clear p2
   try clear c3
   try clear c4
   try clear c5
   try clear c6
   try clear c7
   try clear c8
   try clear c8b0
   try clear c9
   try clear c10
   try clear c11
   try clear c12
   try clear c13
   try clear c14
   try clear c15
   try clear c16
   try clear c17
   try clear c18
   try clear c23
   try clear c24
   try clear c28
   try clear c34
   try clear c35
   try clear c36
   try clear c44
   try clear c45
   try clear c46
   try clear c47
   try clear c48
   try clear c52
   try clear c53
   try clear c54
   try clear c55
   try clear c58
   try clear c60
   try clear c61
   try clear c62
   try clear c63
   try clear c64
   try clear c66
   try clear c67
   try clear c68
   try clear c69
   try clear c72
   try clear c73
   try clear c74
   try clear c76
   try clear c77
   try clear c80
   try clear c81
   try clear c82
   try clear c83
   try clear c84
   try clear c86
   try clear c87
   try clear c88
   try clear c89
   try clear c93
   try clear c103
   try clear c106
   try clear c107
   try clear c108
   try clear c109
   try clear c110
   try clear c113
   try clear c113b0
   try clear c115
   try clear c117
   try clear c118
   try clear c119
   try clear c120
   try clear c121
   try clear c123
   try clear c124
   try clear c125
   try clear c126
   try clear c129
   try clear c130
   try clear c131
   try clear c133
   try clear c134
   try clear c137
   try clear c138
   try clear c139
   try clear c140
   try clear c141
   try clear c143
   try clear c144
   try clear c145
   try clear c146
   try clear c150
   try clear c154
   try clear c155
   try clear c156
   try clear c157
   try clear c158
   try clear c163
   try clear c163b0
   try clear hcz111_0
   try clear hcz111_1
   try clear hcz111_2
   try clear hcz111_3
   try clear hcz111_4
   try clear hcz122_0
   try clear hcz122_1
   try clear hcz122_2
   try clear hcz122_3
   try clear hcz122_4
   try clear hcz127_0
   try clear hcz127_1
   try clear hcz127_2
   try clear hcz127_3
   try clear hcz127_4
   try clear hcz132_0
   try clear hcz132_1
   try clear hcz135_0
   try clear hcz135_1
   try clear hcz142_0
   try clear hcz142_1
   try clear hcz142_2
   try clear hcz142_3
   try clear hcz142_4
   try clear hcz147_0
   try clear hcz147_1
   try clear hcz147_2
   try clear hcz147_3
   try clear hcz147_4
   try clear hcz14_0
   try clear hcz14_1
   try clear hcz14_2
   try clear hcz14_3
   try clear hcz14_4
   try clear hcz159_0
   try clear hcz159_1
   try clear hcz159_2
   try clear hcz159_3
   try clear hcz159_4
   try clear hcz161_0
   try clear hcz161_1
   try clear hcz161_2
   try clear hcz161_3
   try clear hcz161_4
   try clear hcz25_0
   try clear hcz25_1
   try clear hcz25_2
   try clear hcz25_3
   try clear hcz25_4
   try clear hcz29_0
   try clear hcz29_1
   try clear hcz30_0
   try clear hcz30_1
   try clear hcz30_2
   try clear hcz30_3
   try clear hcz30_4
   try clear hcz37_0
   try clear hcz37_1
   try clear hcz37_2
   try clear hcz37_3
   try clear hcz37_4
   try clear hcz49_0
   try clear hcz49_1
   try clear hcz49_2
   try clear hcz49_3
   try clear hcz49_4
   try clear hcz56_0
   try clear hcz56_1
   try clear hcz65_0
   try clear hcz65_1
   try clear hcz65_2
   try clear hcz65_3
   try clear hcz65_4
   try clear hcz6_0
   try clear hcz6_1
   try clear hcz6_2
   try clear hcz6_3
   try clear hcz6_4
   try clear hcz70_0
   try clear hcz70_1
   try clear hcz70_2
   try clear hcz70_3
   try clear hcz70_4
   try clear hcz75_0
   try clear hcz75_1
   try clear hcz78_0
   try clear hcz78_1
   try clear hcz85_0
   try clear hcz85_1
   try clear hcz85_2
   try clear hcz85_3
   try clear hcz85_4
   try clear hcz90_0
   try clear hcz90_1
   try clear hcz90_2
   try clear hcz90_3
   try clear hcz90_4
   try clear hfz111_0
   try clear hfz111_1
   try clear hfz111_2
   try clear hfz111_3
   try clear hfz111_4
   try clear hfz122_0
   try clear hfz122_1
   try clear hfz122_2
   try clear hfz122_3
   try clear hfz122_4
   try clear hfz127_0
   try clear hfz127_1
   try clear hfz127_2
   try clear hfz127_3
   try clear hfz127_4
   try clear hfz132_0
   try clear hfz132_1
   try clear hfz135_0
   try clear hfz135_1
   try clear hfz142_0
   try clear hfz142_1
   try clear hfz142_2
   try clear hfz142_3
   try clear hfz142_4
   try clear hfz147_0
   try clear hfz147_1
   try clear hfz147_2
   try clear hfz147_3
   try clear hfz147_4
   try clear hfz14_0
   try clear hfz14_1
   try clear hfz14_2
   try clear hfz14_3
   try clear hfz14_4
   try clear hfz159_0
   try clear hfz159_1
   try clear hfz159_2
   try clear hfz159_3
   try clear hfz159_4
   try clear hfz161_0
   try clear hfz161_1
   try clear hfz161_2
   try clear hfz161_3
   try clear hfz161_4
   try clear hfz25_0
   try clear hfz25_1
   try clear hfz25_2
   try clear hfz25_3
   try clear hfz25_4
   try clear hfz29_0
   try clear hfz29_1
   try clear hfz30_0
   try clear hfz30_1
   try clear hfz30_2
   try clear hfz30_3
   try clear hfz30_4
   try clear hfz37_0
   try clear hfz37_1
   try clear hfz37_2
   try clear hfz37_3
   try clear hfz37_4
   try clear hfz49_0
   try clear hfz49_1
   try clear hfz49_2
   try clear hfz49_3
   try clear hfz49_4
   try clear hfz56_0
   try clear hfz56_1
   try clear hfz65_0
   try clear hfz65_1
   try clear hfz65_2
   try clear hfz65_3
   try clear hfz65_4
   try clear hfz6_0
   try clear hfz6_1
   try clear hfz6_2
   try clear hfz6_3
   try clear hfz6_4
   try clear hfz70_0
   try clear hfz70_1
   try clear hfz70_2
   try clear hfz70_3
   try clear hfz70_4
   try clear hfz75_0
   try clear hfz75_1
   try clear hfz78_0
   try clear hfz78_1
   try clear hfz85_0
   try clear hfz85_1
   try clear hfz85_2
   try clear hfz85_3
   try clear hfz85_4
   try clear hfz90_0
   try clear hfz90_1
   try clear hfz90_2
   try clear hfz90_3
   try clear hfz90_4
   try clear p2
   obtain ⟨kq, HA, HJ152, HO_269000, HO_269001, HO_269002, HO_282000, HO_282001, HO_282002, HO_296000, HO_296001, HO_296002, BK242, BK268, BK269, BK281, BK295, BK296, HB⟩ := hcut
   have hl296000_152 := (Kd.R_reads' HO_296000.out).1
   rw [hl296000_152] at HO_296000
   (try simp only [hl296000_152])
   (try simp only [hl296000_152] at BK242)
   (try simp only [hl296000_152] at BK268)
   (try simp only [hl296000_152] at BK269)
   (try simp only [hl296000_152] at BK281)
   (try simp only [hl296000_152] at BK295)
   (try simp only [hl296000_152] at BK296)
   (try simp only [hl296000_152] at HO_269000)
   (try simp only [hl296000_152] at HO_269001)
   (try simp only [hl296000_152] at HO_269002)
   (try simp only [hl296000_152] at HO_282000)
   (try simp only [hl296000_152] at HO_282001)
   (try simp only [hl296000_152] at HO_282002)
   (try simp only [hl296000_152] at HO_296001)
   (try simp only [hl296000_152] at HO_296002)
   have hl296001_152 := (Kd.R_reads' HO_296001.out).1
   rw [hl296001_152] at HO_296001
   (try simp only [hl296001_152])
   (try simp only [hl296001_152] at BK242)
   (try simp only [hl296001_152] at BK268)
   (try simp only [hl296001_152] at BK269)
   (try simp only [hl296001_152] at BK281)
   (try simp only [hl296001_152] at BK295)
   (try simp only [hl296001_152] at BK296)
   (try simp only [hl296001_152] at HO_269000)
   (try simp only [hl296001_152] at HO_269001)
   (try simp only [hl296001_152] at HO_269002)
   (try simp only [hl296001_152] at HO_282000)
   (try simp only [hl296001_152] at HO_282001)
   (try simp only [hl296001_152] at HO_282002)
   (try simp only [hl296001_152] at HO_296000)
   (try simp only [hl296001_152] at HO_296002)
   have hl296002_152 := (Kd.R_reads' HO_296002.out).1
   rw [hl296002_152] at HO_296002
   (try simp only [hl296002_152])
   (try simp only [hl296002_152] at BK242)
   (try simp only [hl296002_152] at BK268)
   (try simp only [hl296002_152] at BK269)
   (try simp only [hl296002_152] at BK281)
   (try simp only [hl296002_152] at BK295)
   (try simp only [hl296002_152] at BK296)
   (try simp only [hl296002_152] at HO_269000)
   (try simp only [hl296002_152] at HO_269001)
   (try simp only [hl296002_152] at HO_269002)
   (try simp only [hl296002_152] at HO_282000)
   (try simp only [hl296002_152] at HO_282001)
   (try simp only [hl296002_152] at HO_282002)
   (try simp only [hl296002_152] at HO_296000)
   (try simp only [hl296002_152] at HO_296001)
   cases kq with
   | zero => exact absurd HA.out (by simp [laws_FnExactFresh.j6])
   | succ kj152 =>
    have H := HA.out
    clear HA
    simp only [laws_FnExactFresh.j6] at H
    have HC164 := Aside0.mk H
    clear H
    go_upto_if 78 with (fail)
    go_cut [] (fun wc => ∃ (kq : Nat), Aside0 (laws_FnExactFresh.j7 kq a1 t317 l0_0 l0_1 l0_2 a0_3 a0_4 t255 t258 t261 t264 t265 t266 t267 t318 t319 t320 t291 t292 = some r) ∧ Aside0 (kq ≤ kj152) ∧ Aside0 (Kd.R k96 96 wc w.heap.size (fun k_ => some k_ ≠ ((.slice Ao33 t312.length co33) : Value).ownBlock ∧ some k_ ≠ ((.slice Ao43 t318.length co43) : Value).ownBlock) (.slice Ao22 t255.length co22) t255) ∧ Aside0 (Kd.R (Kd.int .i64) 3 wc w.heap.size (fun k_ => some k_ ≠ ((.slice Ao27 t261.length co27) : Value).ownBlock ∧ some k_ ≠ ((.slice Ao38 t313.length co38) : Value).ownBlock ∧ some k_ ≠ ((.slice Ao39 t314.length co39) : Value).ownBlock ∧ some k_ ≠ ((.slice Ao50 t319.length co50) : Value).ownBlock ∧ some k_ ≠ ((.slice Ao51 t320.length co51) : Value).ownBlock) (.slice Ao26 t258.length co26) t258) ∧ Aside0 (Kd.R (Kd.int .i64) 3 wc w.heap.size (fun k_ => some k_ ≠ ((.slice Ao26 t258.length co26) : Value).ownBlock ∧ some k_ ≠ ((.slice Ao38 t313.length co38) : Value).ownBlock ∧ some k_ ≠ ((.slice Ao39 t314.length co39) : Value).ownBlock ∧ some k_ ≠ ((.slice Ao50 t319.length co50) : Value).ownBlock ∧ some k_ ≠ ((.slice Ao51 t320.length co51) : Value).ownBlock) (.slice Ao27 t261.length co27) t261) ∧ Aside0 (Kd.R k96 96 wc w.heap.size (fun k_ => some k_ ≠ ((.slice Ao22 t255.length co22) : Value).ownBlock ∧ some k_ ≠ ((.slice Ao43 t318.length co43) : Value).ownBlock) (.slice Ao33 t312.length co33) t312) ∧ Aside0 (Kd.R (Kd.int .i64) 3 wc w.heap.size (fun k_ => some k_ ≠ ((.slice Ao26 t258.length co26) : Value).ownBlock ∧ some k_ ≠ ((.slice Ao27 t261.length co27) : Value).ownBlock ∧ some k_ ≠ ((.slice Ao39 t314.length co39) : Value).ownBlock ∧ some k_ ≠ ((.slice Ao50 t319.length co50) : Value).ownBlock ∧ some k_ ≠ ((.slice Ao51 t320.length co51) : Value).ownBlock) (.slice Ao38 t313.length co38) t313) ∧ Aside0 (Kd.R (Kd.int .i64) 3 wc w.heap.size (fun k_ => some k_ ≠ ((.slice Ao26 t258.length co26) : Value).ownBlock ∧ some k_ ≠ ((.slice Ao27 t261.length co27) : Value).ownBlock ∧ some k_ ≠ ((.slice Ao38 t313.length co38) : Value).ownBlock ∧ some k_ ≠ ((.slice Ao50 t319.length co50) : Value).ownBlock ∧ some k_ ≠ ((.slice Ao51 t320.length co51) : Value).ownBlock) (.slice Ao39 t314.length co39) t314) ∧ Aside0 (Kd.R k96 96 wc w.heap.size (fun k_ => some k_ ≠ ((.slice Ao22 t255.length co22) : Value).ownBlock ∧ some k_ ≠ ((.slice Ao33 t312.length co33) : Value).ownBlock) (.slice Ao43 t318.length co43) t318) ∧ Aside0 (Kd.R (Kd.int .i64) 3 wc w.heap.size (fun k_ => some k_ ≠ ((.slice Ao26 t258.length co26) : Value).ownBlock ∧ some k_ ≠ ((.slice Ao27 t261.length co27) : Value).ownBlock ∧ some k_ ≠ ((.slice Ao38 t313.length co38) : Value).ownBlock ∧ some k_ ≠ ((.slice Ao39 t314.length co39) : Value).ownBlock ∧ some k_ ≠ ((.slice Ao51 t320.length co51) : Value).ownBlock) (.slice Ao50 t319.length co50) t319) ∧ Aside0 (Kd.R (Kd.int .i64) 3 wc w.heap.size (fun k_ => some k_ ≠ ((.slice Ao26 t258.length co26) : Value).ownBlock ∧ some k_ ≠ ((.slice Ao27 t261.length co27) : Value).ownBlock ∧ some k_ ≠ ((.slice Ao38 t313.length co38) : Value).ownBlock ∧ some k_ ≠ ((.slice Ao39 t314.length co39) : Value).ownBlock ∧ some k_ ≠ ((.slice Ao50 t319.length co50) : Value).ownBlock) (.slice Ao51 t320.length co51) t320) ∧ Aside0 (wc.heap[gb242]? = some (.cells #[(.slice A0_0 l0_0.length c0_0), (.slice A0_1 l0_1.length c0_1), (.slice A0_2 l0_2.length c0_2), .int .i64 a0_3, .int .i64 a0_4] 25 (0, 0))) ∧ Aside0 (wc.heap[gb268]? = some (.cells #[(.slice Ao22 t255.length co22), (.slice Ao26 t258.length co26), (.slice Ao27 t261.length co27), .int .i64 t264, .int .i64 t265] 29 (0, 0))) ∧ Aside0 (wc.heap[gb269]? = some (.cells #[.int .i64 t266, .int .i64 t267] 37 (0, 0))) ∧ Aside0 (wc.heap[gb281]? = some (.cells #[(.slice Ao33 t312.length co33), (.slice Ao38 t313.length co38), (.slice Ao39 t314.length co39), .int .i64 t279, .int .i64 t280] 29 (0, 0))) ∧ Aside0 (wc.heap[gb295]? = some (.cells #[(.slice Ao43 t318.length co43), (.slice Ao50 t319.length co50), (.slice Ao51 t320.length co51), .int .i64 t291, .int .i64 t292] 29 (0, 0))) ∧ Aside0 (wc.heap[gb296]? = some (.cells #[.int .i64 t293, .int .i64 t294] 37 (0, 0))) ∧ Aside0 (Below w.heap.size w wc))
    case first =>
     have H := HC164.out
     clear HC164
     by_cases c165 : t321 = t317
     ·
      rw [if_pos c165] at H
      have c165b0 : (t321 == t317) = true := beq_iff_eq.mpr c165
      have c165b1 : (t321 != t317) = false := bne_eq_false_iff_eq.mpr c165
      clear c165
      (first | rw [c165b0] | (simp only [i64_w, i32_w]; rw [c165b0]) | skip)
      have H' := Aside0.mk H
      clear H
      go_wp2
      go_meet
      case rel => exact ⟨_, H', ⟨by have := HJ3.out; have := HJ12.out; have := HJ91.out; have := HJ95.out; have := HJ104.out; have := HJ148.out; have := HJ152.out; first | omega | exact Nat.le_refl _⟩, ⟨by (try simp only [hl282000_104]); (try simp only [hl282001_104]); (try simp only [hl282002_104]); (try simp only [hl296000_152]); (try simp only [hl296001_152]); (try simp only [hl296002_152]); (with_reducible repeat (first | apply Kd.R_alloc | apply Kd.R_drewN | apply Kd.R_drew)); exact HO_269000.out⟩, ⟨by (try simp only [hl282000_104]); (try simp only [hl282001_104]); (try simp only [hl282002_104]); (try simp only [hl296000_152]); (try simp only [hl296001_152]); (try simp only [hl296002_152]); (with_reducible repeat (first | apply Kd.R_alloc | apply Kd.R_drewN | apply Kd.R_drew)); exact HO_269001.out⟩, ⟨by (try simp only [hl282000_104]); (try simp only [hl282001_104]); (try simp only [hl282002_104]); (try simp only [hl296000_152]); (try simp only [hl296001_152]); (try simp only [hl296002_152]); (with_reducible repeat (first | apply Kd.R_alloc | apply Kd.R_drewN | apply Kd.R_drew)); exact HO_269002.out⟩, ⟨by (try simp only [hl282000_104]); (try simp only [hl282001_104]); (try simp only [hl282002_104]); (try simp only [hl296000_152]); (try simp only [hl296001_152]); (try simp only [hl296002_152]); (with_reducible repeat (first | apply Kd.R_alloc | apply Kd.R_drewN | apply Kd.R_drew)); exact HO_282000.out⟩, ⟨by (try simp only [hl282000_104]); (try simp only [hl282001_104]); (try simp only [hl282002_104]); (try simp only [hl296000_152]); (try simp only [hl296001_152]); (try simp only [hl296002_152]); (with_reducible repeat (first | apply Kd.R_alloc | apply Kd.R_drewN | apply Kd.R_drew)); exact HO_282001.out⟩, ⟨by (try simp only [hl282000_104]); (try simp only [hl282001_104]); (try simp only [hl282002_104]); (try simp only [hl296000_152]); (try simp only [hl296001_152]); (try simp only [hl296002_152]); (with_reducible repeat (first | apply Kd.R_alloc | apply Kd.R_drewN | apply Kd.R_drew)); exact HO_282002.out⟩, ⟨by (try simp only [hl282000_104]); (try simp only [hl282001_104]); (try simp only [hl282002_104]); (try simp only [hl296000_152]); (try simp only [hl296001_152]); (try simp only [hl296002_152]); (with_reducible repeat (first | apply Kd.R_alloc | apply Kd.R_drewN | apply Kd.R_drew)); exact HO_296000.out⟩, ⟨by (try simp only [hl282000_104]); (try simp only [hl282001_104]); (try simp only [hl282002_104]); (try simp only [hl296000_152]); (try simp only [hl296001_152]); (try simp only [hl296002_152]); (with_reducible repeat (first | apply Kd.R_alloc | apply Kd.R_drewN | apply Kd.R_drew)); exact HO_296001.out⟩, ⟨by (try simp only [hl282000_104]); (try simp only [hl282001_104]); (try simp only [hl282002_104]); (try simp only [hl296000_152]); (try simp only [hl296001_152]); (try simp only [hl296002_152]); (with_reducible repeat (first | apply Kd.R_alloc | apply Kd.R_drewN | apply Kd.R_drew)); exact HO_296002.out⟩, ⟨by (try simp only [hl282000_104]); (try simp only [hl282001_104]); (try simp only [hl282002_104]); (try simp only [hl296000_152]); (try simp only [hl296001_152]); (try simp only [hl296002_152]); (with_reducible repeat (first | refine blk_drewN ?_ _ | refine blk_drew ?_ | refine blk_alloc ?_ _)); exact BK242.out⟩, ⟨by (try simp only [hl282000_104]); (try simp only [hl282001_104]); (try simp only [hl282002_104]); (try simp only [hl296000_152]); (try simp only [hl296001_152]); (try simp only [hl296002_152]); (with_reducible repeat (first | refine blk_drewN ?_ _ | refine blk_drew ?_ | refine blk_alloc ?_ _)); exact BK268.out⟩, ⟨by (try simp only [hl282000_104]); (try simp only [hl282001_104]); (try simp only [hl282002_104]); (try simp only [hl296000_152]); (try simp only [hl296001_152]); (try simp only [hl296002_152]); (with_reducible repeat (first | refine blk_drewN ?_ _ | refine blk_drew ?_ | refine blk_alloc ?_ _)); exact BK269.out⟩, ⟨by (try simp only [hl282000_104]); (try simp only [hl282001_104]); (try simp only [hl282002_104]); (try simp only [hl296000_152]); (try simp only [hl296001_152]); (try simp only [hl296002_152]); (with_reducible repeat (first | refine blk_drewN ?_ _ | refine blk_drew ?_ | refine blk_alloc ?_ _)); exact BK281.out⟩, ⟨by (try simp only [hl282000_104]); (try simp only [hl282001_104]); (try simp only [hl282002_104]); (try simp only [hl296000_152]); (try simp only [hl296001_152]); (try simp only [hl296002_152]); (with_reducible repeat (first | refine blk_drewN ?_ _ | refine blk_drew ?_ | refine blk_alloc ?_ _)); exact BK295.out⟩, ⟨by (try simp only [hl282000_104]); (try simp only [hl282001_104]); (try simp only [hl282002_104]); (try simp only [hl296000_152]); (try simp only [hl296001_152]); (try simp only [hl296002_152]); (with_reducible repeat (first | refine blk_drewN ?_ _ | refine blk_drew ?_ | refine blk_alloc ?_ _)); exact BK296.out⟩, ⟨by repeat (first | (with_reducible first | exact HB.out | apply below_alloc | apply pw_below_drewN | apply below_drew1 | refine below_set ?_ GE242.out | refine below_set ?_ GE268.out | refine below_set ?_ GE269.out | refine below_set ?_ GE281.out | refine below_set ?_ GE295.out | refine below_set ?_ GE296.out) | exact HB.out)⟩⟩
     ·
      rw [if_neg c165] at H
      have c165b0 : (t321 == t317) = false := beq_eq_false_iff_ne.mpr c165
      have c165b1 : (t321 != t317) = true := bne_iff_ne.mpr c165
      (first | rw [c165b0] | (simp only [i64_w, i32_w]; rw [c165b0]) | skip)
      obtain rfl := Option.some.inj H
      go_wp2
      go_ret
      exact ⟨by first | rfl | (simp [errW_none, errW_some] <;> rfl) | (simp [*, errW_none, errW_some] <;> rfl), by repeat (first | (with_reducible first | exact HB.out | apply below_alloc | apply pw_below_drewN | apply below_drew1 | refine below_set ?_ GE242.out | refine below_set ?_ GE268.out | refine below_set ?_ GE269.out | refine below_set ?_ GE281.out | refine below_set ?_ GE295.out | refine below_set ?_ GE296.out) | exact HB.out)⟩
    case rest =>
     clear HC164
     try clear c1
     try clear c2
     try clear p2
     try clear c3
     try clear c4
     try clear c5
     try clear c6
     try clear c7
     try clear c8
     try clear c8b0
     try clear c9
     try clear c10
     try clear c11
     try clear c12
     try clear c13
     try clear c14
     try clear c15
     try clear c16
     try clear c17
     try clear c18
     try clear c23
     try clear c24
     try clear c28
     try clear c34
     try clear c35
     try clear c36
     try clear c44
     try clear c45
     try clear c46
     try clear c47
     try clear c48
     try clear c52
     try clear c53
     try clear c54
     try clear c55
     try clear c58
     try clear c60
     try clear c61
     try clear c62
     try clear c63
     try clear c64
     try clear c66
     try clear c67
     try clear c68
     try clear c69
     try clear c72
     try clear c73
     try clear c74
     try clear c76
     try clear c77
     try clear c80
     try clear c81
     try clear c82
     try clear c83
     try clear c84
     try clear c86
     try clear c87
     try clear c88
     try clear c89
     try clear c93
     try clear c103
     try clear c106
     try clear c107
     try clear c108
     try clear c109
     try clear c110
     try clear c113
     try clear c113b0
     try clear c115
     try clear c117
     try clear c118
     try clear c119
     try clear c120
     try clear c121
     try clear c123
     try clear c124
     try clear c125
     try clear c126
     try clear c129
     try clear c130
     try clear c131
     try clear c133
     try clear c134
     try clear c137
     try clear c138
     try clear c139
     try clear c140
     try clear c141
     try clear c143
     try clear c144
     try clear c145
     try clear c146
     try clear c150
     try clear c154
     try clear c155
     try clear c156
     try clear c157
     try clear c158
     try clear c163
     try clear c163b0
     try clear c165
     try clear c165b0
     try clear c165b1
     try clear hcz111_0
     try clear hcz111_1
     try clear hcz111_2
     try clear hcz111_3
     try clear hcz111_4
     try clear hcz122_0
     try clear hcz122_1
     try clear hcz122_2
     try clear hcz122_3
     try clear hcz122_4
     try clear hcz127_0
     try clear hcz127_1
     try clear hcz127_2
     try clear hcz127_3
     try clear hcz127_4
     try clear hcz132_0
     try clear hcz132_1
     try clear hcz135_0
     try clear hcz135_1
     try clear hcz142_0
     try clear hcz142_1
     try clear hcz142_2
     try clear hcz142_3
     try clear hcz142_4
     try clear hcz147_0
     try clear hcz147_1
     try clear hcz147_2
     try clear hcz147_3
     try clear hcz147_4
     try clear hcz14_0
     try clear hcz14_1
     try clear hcz14_2
     try clear hcz14_3
     try clear hcz14_4
     try clear hcz159_0
     try clear hcz159_1
     try clear hcz159_2
     try clear hcz159_3
     try clear hcz159_4
     try clear hcz161_0
     try clear hcz161_1
     try clear hcz161_2
     try clear hcz161_3
     try clear hcz161_4
     try clear hcz25_0
     try clear hcz25_1
     try clear hcz25_2
     try clear hcz25_3
     try clear hcz25_4
     try clear hcz29_0
     try clear hcz29_1
     try clear hcz30_0
     try clear hcz30_1
     try clear hcz30_2
     try clear hcz30_3
     try clear hcz30_4
     try clear hcz37_0
     try clear hcz37_1
     try clear hcz37_2
     try clear hcz37_3
     try clear hcz37_4
     try clear hcz49_0
     try clear hcz49_1
     try clear hcz49_2
     try clear hcz49_3
     try clear hcz49_4
     try clear hcz56_0
     try clear hcz56_1
     try clear hcz65_0
     try clear hcz65_1
     try clear hcz65_2
     try clear hcz65_3
     try clear hcz65_4
     try clear hcz6_0
     try clear hcz6_1
     try clear hcz6_2
     try clear hcz6_3
     try clear hcz6_4
     try clear hcz70_0
     try clear hcz70_1
     try clear hcz70_2
     try clear hcz70_3
     try clear hcz70_4
     try clear hcz75_0
     try clear hcz75_1
     try clear hcz78_0
     try clear hcz78_1
     try clear hcz85_0
     try clear hcz85_1
     try clear hcz85_2
     try clear hcz85_3
     try clear hcz85_4
     try clear hcz90_0
     try clear hcz90_1
     try clear hcz90_2
     try clear hcz90_3
     try clear hcz90_4
     try clear hfz111_0
     try clear hfz111_1
     try clear hfz111_2
     try clear hfz111_3
     try clear hfz111_4
     try clear hfz122_0
     try clear hfz122_1
     try clear hfz122_2
     try clear hfz122_3
     try clear hfz122_4
     try clear hfz127_0
     try clear hfz127_1
     try clear hfz127_2
     try clear hfz127_3
     try clear hfz127_4
     try clear hfz132_0
     try clear hfz132_1
     try clear hfz135_0
     try clear hfz135_1
     try clear hfz142_0
     try clear hfz142_1
     try clear hfz142_2
     try clear hfz142_3
     try clear hfz142_4
     try clear hfz147_0
     try clear hfz147_1
     try clear hfz147_2
     try clear hfz147_3
     try clear hfz147_4
     try clear hfz14_0
     try clear hfz14_1
     try clear hfz14_2
     try clear hfz14_3
     try clear hfz14_4
     try clear hfz159_0
     try clear hfz159_1
     try clear hfz159_2
     try clear hfz159_3
     try clear hfz159_4
     try clear hfz161_0
     try clear hfz161_1
     try clear hfz161_2
     try clear hfz161_3
     try clear hfz161_4
     try clear hfz25_0
     try clear hfz25_1
     try clear hfz25_2
     try clear hfz25_3
     try clear hfz25_4
     try clear hfz29_0
     try clear hfz29_1
     try clear hfz30_0
     try clear hfz30_1
     try clear hfz30_2
     try clear hfz30_3
     try clear hfz30_4
     try clear hfz37_0
     try clear hfz37_1
     try clear hfz37_2
     try clear hfz37_3
     try clear hfz37_4
     try clear hfz49_0
     try clear hfz49_1
     try clear hfz49_2
     try clear hfz49_3
     try clear hfz49_4
     try clear hfz56_0
     try clear hfz56_1
     try clear hfz65_0
     try clear hfz65_1
     try clear hfz65_2
     try clear hfz65_3
     try clear hfz65_4
     try clear hfz6_0
     try clear hfz6_1
     try clear hfz6_2
     try clear hfz6_3
     try clear hfz6_4
     try clear hfz70_0
     try clear hfz70_1
     try clear hfz70_2
     try clear hfz70_3
     try clear hfz70_4
     try clear hfz75_0
     try clear hfz75_1
     try clear hfz78_0
     try clear hfz78_1
     try clear hfz85_0
     try clear hfz85_1
     try clear hfz85_2
     try clear hfz85_3
     try clear hfz85_4
     try clear hfz90_0
     try clear hfz90_1
     try clear hfz90_2
     try clear hfz90_3
     try clear hfz90_4
     try clear p2
     obtain ⟨kq, HA, HJ163, HO_269000, HO_269001, HO_269002, HO_282000, HO_282001, HO_282002, HO_296000, HO_296001, HO_296002, BK242, BK268, BK269, BK281, BK295, BK296, HB⟩ := hcut
     cases kq with
     | zero => exact absurd HA.out (by simp [laws_FnExactFresh.j7])
     | succ kj163 =>
      have H := HA.out
      clear HA
      simp only [laws_FnExactFresh.j7] at H
      replace H := Option.bind_eq_some_iff.mp H
      obtain ⟨⟨t322, t325, t328, t331, t332⟩, A1660, H⟩ := H
      replace H : ((impl_Fresh.f t322 t325 t328 t331 t332 a1).bind fun bt333 => ((laws_eqMemory.f kj163 bt333.1 bt333.2.1 bt333.2.2.1 bt333.2.2.2.1 bt333.2.2.2.2.1 t255 t258 t261 t264 t265).bind fun t348 => (if t348 = true then ((laws_eqValue.f bt333.2.2.2.2.2.1 bt333.2.2.2.2.2.2 t266 t267).bind fun t349 => (laws_FnExactFresh.j8 kj163 t317 (!t349) t318 t319 t320 t291 t292)) else (laws_FnExactFresh.j8 kj163 t317 true t318 t319 t320 t291 t292)))) = some r := H
      have A166 := Aside0.mk A1660
      clear A1660
      replace H := Option.bind_eq_some_iff.mp H
      obtain ⟨⟨t333, t336, t339, t342, t343, t344, t345⟩, A1670, H⟩ := H
      replace H : ((laws_eqMemory.f kj163 t333 t336 t339 t342 t343 t255 t258 t261 t264 t265).bind fun t348 => (if t348 = true then ((laws_eqValue.f t344 t345 t266 t267).bind fun t349 => (laws_FnExactFresh.j8 kj163 t317 (!t349) t318 t319 t320 t291 t292)) else (laws_FnExactFresh.j8 kj163 t317 true t318 t319 t320 t291 t292))) = some r := H
      have A167 := Aside0.mk A1670
      clear A1670
      have HC168 := Aside0.mk H
      clear H
      have hnb169 := NB242_268.out
      have hnc169 := NB268_242.out
      have hnb170 := NB242_269.out
      have hnc170 := NB269_242.out
      have hnb171 := NB242_281.out
      have hnc171 := NB281_242.out
      have hnb172 := NB242_295.out
      have hnc172 := NB295_242.out
      have hnb173 := NB242_296.out
      have hnc173 := NB296_242.out
      have hcz174_0 : wc.cell? ⟨gb242, 0, none⟩ = some (.slice A0_0 l0_0.length c0_0) := (blk_cell BK242.out 0).trans rfl
      have hcz174_1 : wc.cell? ⟨gb242, 1, none⟩ = some (.slice A0_1 l0_1.length c0_1) := (blk_cell BK242.out 1).trans rfl
      have hcz174_2 : wc.cell? ⟨gb242, 2, none⟩ = some (.slice A0_2 l0_2.length c0_2) := (blk_cell BK242.out 2).trans rfl
      have hcz174_3 : wc.cell? ⟨gb242, 3, none⟩ = some (.int .i64 a0_3) := (blk_cell BK242.out 3).trans rfl
      have hcz174_4 : wc.cell? ⟨gb242, 4, none⟩ = some (.int .i64 a0_4) := (blk_cell BK242.out 4).trans rfl
      have hfz174_0 := blk_frozen BK242.out 0
      have hfz174_1 := blk_frozen BK242.out 1
      have hfz174_2 := blk_frozen BK242.out 2
      have hfz174_3 := blk_frozen BK242.out 3
      have hfz174_4 := blk_frozen BK242.out 4
      go_upto_region 25 with (first | ((with_reducible refine gate_callee (f := 12) rfl ?_); refine goesL_ (some 81) rfl rfl Try.func12 (by kernel_rfl) rfl #[.agg #[.slice A0_0 l0_0.length c0_0, .slice A0_1 l0_1.length c0_1, .slice A0_2 l0_2.length c0_2, .int .i64 a0_3, .int .i64 a0_4]] rfl (by (try simp only [List.map_toArray, List.map_cons, List.map_nil]); first | done | rfl | (simp only [List.length_drop, List.length_take]; rfl)) ?_; (with_reducible refine (laws_toMemory.calls kj163 _ _ l0_0 _ _ l0_1 _ _ l0_2 a0_3 a0_4 t322 t325 t328 t331 t332 _ ?side1 ?side2 ?side3 ?side4 ?side5 ?side6 A166.out).mono ?_); (case side1 => repeat (first | exact (Kd.C_below HR0_0.out HB.out) | (with_reducible refine Kd.C_alloc ?_ _) | (with_reducible refine Kd.C_drewN ?_ _) | (with_reducible refine Kd.C_drew ?_))); (case side2 => exact HC0_0.out); (case side3 => repeat (first | exact (Kd.C_below HR0_1.out HB.out) | (with_reducible refine Kd.C_alloc ?_ _) | (with_reducible refine Kd.C_drewN ?_ _) | (with_reducible refine Kd.C_drew ?_))); (case side4 => exact HC0_1.out); (case side5 => repeat (first | exact (Kd.C_below HR0_2.out HB.out) | (with_reducible refine Kd.C_alloc ?_ _) | (with_reducible refine Kd.C_drewN ?_ _) | (with_reducible refine Kd.C_drew ?_))); (case side6 => exact HC0_2.out); rintro e w175 ⟨v323, v326, v329, rfl, ho0, ho1, ho2, hb⟩; refine ⟨_, rfl, ?_⟩; have n0_ := Aside0.mk (Kd.R_elder' (by (with_reducible repeat (first | apply Kd.R_alloc | apply Kd.R_drewN | apply Kd.R_drew)); exact HO_269000.out) (Kd.R_base ho0) hb); have n1_ := Aside0.mk (Kd.R_mono (Kd.R_told (Kd.R_told (Kd.R_old (by (with_reducible repeat (first | apply Kd.R_alloc | apply Kd.R_drewN | apply Kd.R_drew)); exact HO_269001.out) hb) (Kd.R_base ho1)) (Kd.R_base ho2)) (fun _ h_ => h_.1)); have n2_ := Aside0.mk (Kd.R_mono (Kd.R_told (Kd.R_told (Kd.R_old (by (with_reducible repeat (first | apply Kd.R_alloc | apply Kd.R_drewN | apply Kd.R_drew)); exact HO_269002.out) hb) (Kd.R_base ho1)) (Kd.R_base ho2)) (fun _ h_ => h_.1)); have n3_ := Aside0.mk (Kd.R_elder' (by (with_reducible repeat (first | apply Kd.R_alloc | apply Kd.R_drewN | apply Kd.R_drew)); exact HO_282000.out) (Kd.R_base ho0) hb); have n4_ := Aside0.mk (Kd.R_mono (Kd.R_told (Kd.R_told (Kd.R_old (by (with_reducible repeat (first | apply Kd.R_alloc | apply Kd.R_drewN | apply Kd.R_drew)); exact HO_282001.out) hb) (Kd.R_base ho1)) (Kd.R_base ho2)) (fun _ h_ => h_.1)); have n5_ := Aside0.mk (Kd.R_mono (Kd.R_told (Kd.R_told (Kd.R_old (by (with_reducible repeat (first | apply Kd.R_alloc | apply Kd.R_drewN | apply Kd.R_drew)); exact HO_282002.out) hb) (Kd.R_base ho1)) (Kd.R_base ho2)) (fun _ h_ => h_.1)); have n6_ := Aside0.mk (Kd.R_elder' (by (with_reducible repeat (first | apply Kd.R_alloc | apply Kd.R_drewN | apply Kd.R_drew)); exact HO_296000.out) (Kd.R_base ho0) hb); have n7_ := Aside0.mk (Kd.R_mono (Kd.R_told (Kd.R_told (Kd.R_old (by (with_reducible repeat (first | apply Kd.R_alloc | apply Kd.R_drewN | apply Kd.R_drew)); exact HO_296001.out) hb) (Kd.R_base ho1)) (Kd.R_base ho2)) (fun _ h_ => h_.1)); have n8_ := Aside0.mk (Kd.R_mono (Kd.R_told (Kd.R_told (Kd.R_old (by (with_reducible repeat (first | apply Kd.R_alloc | apply Kd.R_drewN | apply Kd.R_drew)); exact HO_296002.out) hb) (Kd.R_base ho1)) (Kd.R_base ho2)) (fun _ h_ => h_.1)); have n9_ := Aside0.mk (Kd.R_lower (Kd.R_new' (Kd.R_new' (Kd.R_new' ho0 (Kd.R_lt (by (with_reducible repeat (first | apply Kd.R_alloc | apply Kd.R_drewN | apply Kd.R_drew)); exact HO_269000.out))) (Kd.R_lt (by (with_reducible repeat (first | apply Kd.R_alloc | apply Kd.R_drewN | apply Kd.R_drew)); exact HO_282000.out))) (Kd.R_lt (by (with_reducible repeat (first | apply Kd.R_alloc | apply Kd.R_drewN | apply Kd.R_drew)); exact HO_296000.out))) (below_size (by repeat (first | (with_reducible first | exact HB.out | apply below_alloc | apply pw_below_drewN | apply below_drew1 | refine below_set ?_ GE242.out | refine below_set ?_ GE268.out | refine below_set ?_ GE269.out | refine below_set ?_ GE281.out | refine below_set ?_ GE295.out | refine below_set ?_ GE296.out) | exact HB.out)))); have n10_ := Aside0.mk (Kd.R_lower (Kd.R_new' (Kd.R_new' (Kd.R_new' (Kd.R_new' (Kd.R_new' (Kd.R_new' ho1 (Kd.R_lt (by (with_reducible repeat (first | apply Kd.R_alloc | apply Kd.R_drewN | apply Kd.R_drew)); exact HO_269001.out))) (Kd.R_lt (by (with_reducible repeat (first | apply Kd.R_alloc | apply Kd.R_drewN | apply Kd.R_drew)); exact HO_269002.out))) (Kd.R_lt (by (with_reducible repeat (first | apply Kd.R_alloc | apply Kd.R_drewN | apply Kd.R_drew)); exact HO_282001.out))) (Kd.R_lt (by (with_reducible repeat (first | apply Kd.R_alloc | apply Kd.R_drewN | apply Kd.R_drew)); exact HO_282002.out))) (Kd.R_lt (by (with_reducible repeat (first | apply Kd.R_alloc | apply Kd.R_drewN | apply Kd.R_drew)); exact HO_296001.out))) (Kd.R_lt (by (with_reducible repeat (first | apply Kd.R_alloc | apply Kd.R_drewN | apply Kd.R_drew)); exact HO_296002.out))) (below_size (by repeat (first | (with_reducible first | exact HB.out | apply below_alloc | apply pw_below_drewN | apply below_drew1 | refine below_set ?_ GE242.out | refine below_set ?_ GE268.out | refine below_set ?_ GE269.out | refine below_set ?_ GE281.out | refine below_set ?_ GE295.out | refine below_set ?_ GE296.out) | exact HB.out)))); have n11_ := Aside0.mk (Kd.R_lower (Kd.R_new' (Kd.R_new' (Kd.R_new' (Kd.R_new' (Kd.R_new' (Kd.R_new' ho2 (Kd.R_lt (by (with_reducible repeat (first | apply Kd.R_alloc | apply Kd.R_drewN | apply Kd.R_drew)); exact HO_269001.out))) (Kd.R_lt (by (with_reducible repeat (first | apply Kd.R_alloc | apply Kd.R_drewN | apply Kd.R_drew)); exact HO_269002.out))) (Kd.R_lt (by (with_reducible repeat (first | apply Kd.R_alloc | apply Kd.R_drewN | apply Kd.R_drew)); exact HO_282001.out))) (Kd.R_lt (by (with_reducible repeat (first | apply Kd.R_alloc | apply Kd.R_drewN | apply Kd.R_drew)); exact HO_282002.out))) (Kd.R_lt (by (with_reducible repeat (first | apply Kd.R_alloc | apply Kd.R_drewN | apply Kd.R_drew)); exact HO_296001.out))) (Kd.R_lt (by (with_reducible repeat (first | apply Kd.R_alloc | apply Kd.R_drewN | apply Kd.R_drew)); exact HO_296002.out))) (below_size (by repeat (first | (with_reducible first | exact HB.out | apply below_alloc | apply pw_below_drewN | apply below_drew1 | refine below_set ?_ GE242.out | refine below_set ?_ GE268.out | refine below_set ?_ GE269.out | refine below_set ?_ GE281.out | refine below_set ?_ GE295.out | refine below_set ?_ GE296.out) | exact HB.out)))); have n12_ := Aside0.mk (blk_below (g := gb242) (o := .cells #[.slice A0_0 l0_0.length c0_0, .slice A0_1 l0_1.length c0_1, .slice A0_2 l0_2.length c0_2, .int .i64 a0_3, .int .i64 a0_4] 25 (0, 0)) (by (with_reducible repeat (first | refine blk_drewN ?_ _ | refine blk_drew ?_ | refine blk_alloc ?_ _)); exact BK242.out) hb); have n13_ := Aside0.mk (blk_below (g := gb268) (o := .cells #[.slice Ao22 t255.length co22, .slice Ao26 t258.length co26, .slice Ao27 t261.length co27, .int .i64 t264, .int .i64 t265] 29 (0, 0)) (by (with_reducible repeat (first | refine blk_drewN ?_ _ | refine blk_drew ?_ | refine blk_alloc ?_ _)); exact BK268.out) hb); have n14_ := Aside0.mk (blk_below (g := gb269) (o := .cells #[.int .i64 t266, .int .i64 t267] 37 (0, 0)) (by (with_reducible repeat (first | refine blk_drewN ?_ _ | refine blk_drew ?_ | refine blk_alloc ?_ _)); exact BK269.out) hb); have n15_ := Aside0.mk (blk_below (g := gb281) (o := .cells #[.slice Ao33 t312.length co33, .slice Ao38 t313.length co38, .slice Ao39 t314.length co39, .int .i64 t279, .int .i64 t280] 29 (0, 0)) (by (with_reducible repeat (first | refine blk_drewN ?_ _ | refine blk_drew ?_ | refine blk_alloc ?_ _)); exact BK281.out) hb); have n16_ := Aside0.mk (blk_below (g := gb295) (o := .cells #[.slice Ao43 t318.length co43, .slice Ao50 t319.length co50, .slice Ao51 t320.length co51, .int .i64 t291, .int .i64 t292] 29 (0, 0)) (by (with_reducible repeat (first | refine blk_drewN ?_ _ | refine blk_drew ?_ | refine blk_alloc ?_ _)); exact BK295.out) hb); have n17_ := Aside0.mk (blk_below (g := gb296) (o := .cells #[.int .i64 t293, .int .i64 t294] 37 (0, 0)) (by (with_reducible repeat (first | refine blk_drewN ?_ _ | refine blk_drew ?_ | refine blk_alloc ?_ _)); exact BK296.out) hb); have n18_ := Aside0.mk (below_step (by repeat (first | (with_reducible first | exact HB.out | apply below_alloc | apply pw_below_drewN | apply below_drew1 | refine below_set ?_ GE242.out | refine below_set ?_ GE268.out | refine below_set ?_ GE269.out | refine below_set ?_ GE281.out | refine below_set ?_ GE295.out | refine below_set ?_ GE296.out) | exact HB.out)) hb); clear HO_269000; clear HO_269001; clear HO_269002; clear HO_282000; clear HO_282001; clear HO_282002; clear HO_296000; clear HO_296001; clear HO_296002; clear BK242; clear BK268; clear BK269; clear BK281; clear BK295; clear BK296; clear HB; have HO_269000 := n0_; have HO_269001 := n1_; have HO_269002 := n2_; have HO_282000 := n3_; have HO_282001 := n4_; have HO_282002 := n5_; have HO_296000 := n6_; have HO_296001 := n7_; have HO_296002 := n8_; have HO324 := n9_; have HO327 := n10_; have HO330 := n11_; have BK242 := n12_; have BK268 := n13_; have BK269 := n14_; have BK281 := n15_; have BK295 := n16_; have BK296 := n17_; have HB := n18_; clear n0_ n1_ n2_ n3_ n4_ n5_ n6_ n7_ n8_ n9_ n10_ n11_ n12_ n13_ n14_ n15_ n16_ n17_ n18_; (try clear hb); (try clear hb2); (try clear hk); (try clear hi); (try clear ho0); (try clear ho1); (try clear ho2); obtain ⟨Ao176, co176, eo176⟩ := Kd.R_slice HO324.out; subst eo176; obtain ⟨Ao177, co177, eo177⟩ := Kd.R_slice HO327.out; subst eo177; obtain ⟨Ao178, co178, eo178⟩ := Kd.R_slice HO330.out; subst eo178) | ((with_reducible refine gate_callee (f := 18) rfl ?_); refine goesL_ (some 83) rfl rfl Try.func18 (by kernel_rfl) rfl #[.agg #[.slice Ao176 t322.length co176, .slice Ao177 t325.length co177, .slice Ao178 t328.length co178, .int .i64 t331, .int .i64 t332], .int .i64 a1] rfl (by (try simp only [List.map_toArray, List.map_cons, List.map_nil]); first | done | rfl | (simp only [List.length_drop, List.length_take]; rfl)) ?_; (with_reducible refine (impl_Fresh.calls _ _ t322 _ _ t325 _ _ t328 t331 t332 a1 t333 t336 t339 t342 t343 t344 t345 _ ?side1 ?side2 ?side3 ?side4 ?side5 ?side6 A167.out).mono ?_); (case side1 => repeat (first | exact (Kd.R_reads' HO324.out).2.2 | (with_reducible refine Kd.C_alloc ?_ _) | (with_reducible refine Kd.C_drewN ?_ _) | (with_reducible refine Kd.C_drew ?_))); (case side2 => exact (Kd.R_reads' HO324.out).2.1); (case side3 => repeat (first | exact (Kd.R_reads' HO327.out).2.2 | (with_reducible refine Kd.C_alloc ?_ _) | (with_reducible refine Kd.C_drewN ?_ _) | (with_reducible refine Kd.C_drew ?_))); (case side4 => exact (Kd.R_reads' HO327.out).2.1); (case side5 => repeat (first | exact (Kd.R_reads' HO330.out).2.2 | (with_reducible refine Kd.C_alloc ?_ _) | (with_reducible refine Kd.C_drewN ?_ _) | (with_reducible refine Kd.C_drew ?_))); (case side6 => exact (Kd.R_reads' HO330.out).2.1); rintro e w179 ⟨v334, v337, v340, rfl, ho0, ho1, ho2, hb⟩; refine ⟨_, rfl, ?_⟩; have n0_ := Aside0.mk (Kd.R_elder' (by (with_reducible repeat (first | apply Kd.R_alloc | apply Kd.R_drewN | apply Kd.R_drew)); exact HO_269000.out) (Kd.R_base ho0) hb); have n1_ := Aside0.mk (Kd.R_mono (Kd.R_told (Kd.R_told (Kd.R_old (by (with_reducible repeat (first | apply Kd.R_alloc | apply Kd.R_drewN | apply Kd.R_drew)); exact HO_269001.out) hb) (Kd.R_base ho1)) (Kd.R_base ho2)) (fun _ h_ => h_.1)); have n2_ := Aside0.mk (Kd.R_mono (Kd.R_told (Kd.R_told (Kd.R_old (by (with_reducible repeat (first | apply Kd.R_alloc | apply Kd.R_drewN | apply Kd.R_drew)); exact HO_269002.out) hb) (Kd.R_base ho1)) (Kd.R_base ho2)) (fun _ h_ => h_.1)); have n3_ := Aside0.mk (Kd.R_elder' (by (with_reducible repeat (first | apply Kd.R_alloc | apply Kd.R_drewN | apply Kd.R_drew)); exact HO_282000.out) (Kd.R_base ho0) hb); have n4_ := Aside0.mk (Kd.R_mono (Kd.R_told (Kd.R_told (Kd.R_old (by (with_reducible repeat (first | apply Kd.R_alloc | apply Kd.R_drewN | apply Kd.R_drew)); exact HO_282001.out) hb) (Kd.R_base ho1)) (Kd.R_base ho2)) (fun _ h_ => h_.1)); have n5_ := Aside0.mk (Kd.R_mono (Kd.R_told (Kd.R_told (Kd.R_old (by (with_reducible repeat (first | apply Kd.R_alloc | apply Kd.R_drewN | apply Kd.R_drew)); exact HO_282002.out) hb) (Kd.R_base ho1)) (Kd.R_base ho2)) (fun _ h_ => h_.1)); have n6_ := Aside0.mk (Kd.R_elder' (by (with_reducible repeat (first | apply Kd.R_alloc | apply Kd.R_drewN | apply Kd.R_drew)); exact HO_296000.out) (Kd.R_base ho0) hb); have n7_ := Aside0.mk (Kd.R_mono (Kd.R_told (Kd.R_told (Kd.R_old (by (with_reducible repeat (first | apply Kd.R_alloc | apply Kd.R_drewN | apply Kd.R_drew)); exact HO_296001.out) hb) (Kd.R_base ho1)) (Kd.R_base ho2)) (fun _ h_ => h_.1)); have n8_ := Aside0.mk (Kd.R_mono (Kd.R_told (Kd.R_told (Kd.R_old (by (with_reducible repeat (first | apply Kd.R_alloc | apply Kd.R_drewN | apply Kd.R_drew)); exact HO_296002.out) hb) (Kd.R_base ho1)) (Kd.R_base ho2)) (fun _ h_ => h_.1)); have n9_ := Aside0.mk (Kd.R_elder' (by (with_reducible repeat (first | apply Kd.R_alloc | apply Kd.R_drewN | apply Kd.R_drew)); exact HO324.out) (Kd.R_base ho0) hb); have n10_ := Aside0.mk (Kd.R_mono (Kd.R_told (Kd.R_told (Kd.R_old (by (with_reducible repeat (first | apply Kd.R_alloc | apply Kd.R_drewN | apply Kd.R_drew)); exact HO327.out) hb) (Kd.R_base ho1)) (Kd.R_base ho2)) (fun _ h_ => h_.1)); have n11_ := Aside0.mk (Kd.R_mono (Kd.R_told (Kd.R_told (Kd.R_old (by (with_reducible repeat (first | apply Kd.R_alloc | apply Kd.R_drewN | apply Kd.R_drew)); exact HO330.out) hb) (Kd.R_base ho1)) (Kd.R_base ho2)) (fun _ h_ => h_.1)); have n12_ := Aside0.mk (Kd.R_lower (Kd.R_new' (Kd.R_new' (Kd.R_new' (Kd.R_new' ho0 (Kd.R_lt (by (with_reducible repeat (first | apply Kd.R_alloc | apply Kd.R_drewN | apply Kd.R_drew)); exact HO_269000.out))) (Kd.R_lt (by (with_reducible repeat (first | apply Kd.R_alloc | apply Kd.R_drewN | apply Kd.R_drew)); exact HO_282000.out))) (Kd.R_lt (by (with_reducible repeat (first | apply Kd.R_alloc | apply Kd.R_drewN | apply Kd.R_drew)); exact HO_296000.out))) (Kd.R_lt (by (with_reducible repeat (first | apply Kd.R_alloc | apply Kd.R_drewN | apply Kd.R_drew)); exact HO324.out))) (below_size (by repeat (first | (with_reducible first | exact HB.out | apply below_alloc | apply pw_below_drewN | apply below_drew1 | refine below_set ?_ GE242.out | refine below_set ?_ GE268.out | refine below_set ?_ GE269.out | refine below_set ?_ GE281.out | refine below_set ?_ GE295.out | refine below_set ?_ GE296.out) | exact HB.out)))); have n13_ := Aside0.mk (Kd.R_lower (Kd.R_new' (Kd.R_new' (Kd.R_new' (Kd.R_new' (Kd.R_new' (Kd.R_new' (Kd.R_new' (Kd.R_new' ho1 (Kd.R_lt (by (with_reducible repeat (first | apply Kd.R_alloc | apply Kd.R_drewN | apply Kd.R_drew)); exact HO_269001.out))) (Kd.R_lt (by (with_reducible repeat (first | apply Kd.R_alloc | apply Kd.R_drewN | apply Kd.R_drew)); exact HO_269002.out))) (Kd.R_lt (by (with_reducible repeat (first | apply Kd.R_alloc | apply Kd.R_drewN | apply Kd.R_drew)); exact HO_282001.out))) (Kd.R_lt (by (with_reducible repeat (first | apply Kd.R_alloc | apply Kd.R_drewN | apply Kd.R_drew)); exact HO_282002.out))) (Kd.R_lt (by (with_reducible repeat (first | apply Kd.R_alloc | apply Kd.R_drewN | apply Kd.R_drew)); exact HO_296001.out))) (Kd.R_lt (by (with_reducible repeat (first | apply Kd.R_alloc | apply Kd.R_drewN | apply Kd.R_drew)); exact HO_296002.out))) (Kd.R_lt (by (with_reducible repeat (first | apply Kd.R_alloc | apply Kd.R_drewN | apply Kd.R_drew)); exact HO327.out))) (Kd.R_lt (by (with_reducible repeat (first | apply Kd.R_alloc | apply Kd.R_drewN | apply Kd.R_drew)); exact HO330.out))) (below_size (by repeat (first | (with_reducible first | exact HB.out | apply below_alloc | apply pw_below_drewN | apply below_drew1 | refine below_set ?_ GE242.out | refine below_set ?_ GE268.out | refine below_set ?_ GE269.out | refine below_set ?_ GE281.out | refine below_set ?_ GE295.out | refine below_set ?_ GE296.out) | exact HB.out)))); have n14_ := Aside0.mk (Kd.R_lower (Kd.R_new' (Kd.R_new' (Kd.R_new' (Kd.R_new' (Kd.R_new' (Kd.R_new' (Kd.R_new' (Kd.R_new' ho2 (Kd.R_lt (by (with_reducible repeat (first | apply Kd.R_alloc | apply Kd.R_drewN | apply Kd.R_drew)); exact HO_269001.out))) (Kd.R_lt (by (with_reducible repeat (first | apply Kd.R_alloc | apply Kd.R_drewN | apply Kd.R_drew)); exact HO_269002.out))) (Kd.R_lt (by (with_reducible repeat (first | apply Kd.R_alloc | apply Kd.R_drewN | apply Kd.R_drew)); exact HO_282001.out))) (Kd.R_lt (by (with_reducible repeat (first | apply Kd.R_alloc | apply Kd.R_drewN | apply Kd.R_drew)); exact HO_282002.out))) (Kd.R_lt (by (with_reducible repeat (first | apply Kd.R_alloc | apply Kd.R_drewN | apply Kd.R_drew)); exact HO_296001.out))) (Kd.R_lt (by (with_reducible repeat (first | apply Kd.R_alloc | apply Kd.R_drewN | apply Kd.R_drew)); exact HO_296002.out))) (Kd.R_lt (by (with_reducible repeat (first | apply Kd.R_alloc | apply Kd.R_drewN | apply Kd.R_drew)); exact HO327.out))) (Kd.R_lt (by (with_reducible repeat (first | apply Kd.R_alloc | apply Kd.R_drewN | apply Kd.R_drew)); exact HO330.out))) (below_size (by repeat (first | (with_reducible first | exact HB.out | apply below_alloc | apply pw_below_drewN | apply below_drew1 | refine below_set ?_ GE242.out | refine below_set ?_ GE268.out | refine below_set ?_ GE269.out | refine below_set ?_ GE281.out | refine below_set ?_ GE295.out | refine below_set ?_ GE296.out) | exact HB.out)))); have n15_ := Aside0.mk (blk_below (g := gb242) (o := .cells #[.slice A0_0 l0_0.length c0_0, .slice A0_1 l0_1.length c0_1, .slice A0_2 l0_2.length c0_2, .int .i64 a0_3, .int .i64 a0_4] 25 (0, 0)) (by (with_reducible repeat (first | refine blk_drewN ?_ _ | refine blk_drew ?_ | refine blk_alloc ?_ _)); exact BK242.out) hb); have n16_ := Aside0.mk (blk_below (g := gb268) (o := .cells #[.slice Ao22 t255.length co22, .slice Ao26 t258.length co26, .slice Ao27 t261.length co27, .int .i64 t264, .int .i64 t265] 29 (0, 0)) (by (with_reducible repeat (first | refine blk_drewN ?_ _ | refine blk_drew ?_ | refine blk_alloc ?_ _)); exact BK268.out) hb); have n17_ := Aside0.mk (blk_below (g := gb269) (o := .cells #[.int .i64 t266, .int .i64 t267] 37 (0, 0)) (by (with_reducible repeat (first | refine blk_drewN ?_ _ | refine blk_drew ?_ | refine blk_alloc ?_ _)); exact BK269.out) hb); have n18_ := Aside0.mk (blk_below (g := gb281) (o := .cells #[.slice Ao33 t312.length co33, .slice Ao38 t313.length co38, .slice Ao39 t314.length co39, .int .i64 t279, .int .i64 t280] 29 (0, 0)) (by (with_reducible repeat (first | refine blk_drewN ?_ _ | refine blk_drew ?_ | refine blk_alloc ?_ _)); exact BK281.out) hb); have n19_ := Aside0.mk (blk_below (g := gb295) (o := .cells #[.slice Ao43 t318.length co43, .slice Ao50 t319.length co50, .slice Ao51 t320.length co51, .int .i64 t291, .int .i64 t292] 29 (0, 0)) (by (with_reducible repeat (first | refine blk_drewN ?_ _ | refine blk_drew ?_ | refine blk_alloc ?_ _)); exact BK295.out) hb); have n20_ := Aside0.mk (blk_below (g := gb296) (o := .cells #[.int .i64 t293, .int .i64 t294] 37 (0, 0)) (by (with_reducible repeat (first | refine blk_drewN ?_ _ | refine blk_drew ?_ | refine blk_alloc ?_ _)); exact BK296.out) hb); have n21_ := Aside0.mk (below_step (by repeat (first | (with_reducible first | exact HB.out | apply below_alloc | apply pw_below_drewN | apply below_drew1 | refine below_set ?_ GE242.out | refine below_set ?_ GE268.out | refine below_set ?_ GE269.out | refine below_set ?_ GE281.out | refine below_set ?_ GE295.out | refine below_set ?_ GE296.out) | exact HB.out)) hb); clear HO_269000; clear HO_269001; clear HO_269002; clear HO_282000; clear HO_282001; clear HO_282002; clear HO_296000; clear HO_296001; clear HO_296002; clear HO324; clear HO327; clear HO330; clear BK242; clear BK268; clear BK269; clear BK281; clear BK295; clear BK296; clear HB; have HO_269000 := n0_; have HO_269001 := n1_; have HO_269002 := n2_; have HO_282000 := n3_; have HO_282001 := n4_; have HO_282002 := n5_; have HO_296000 := n6_; have HO_296001 := n7_; have HO_296002 := n8_; have HO324 := n9_; have HO327 := n10_; have HO330 := n11_; have HO335 := n12_; have HO338 := n13_; have HO341 := n14_; have BK242 := n15_; have BK268 := n16_; have BK269 := n17_; have BK281 := n18_; have BK295 := n19_; have BK296 := n20_; have HB := n21_; clear n0_ n1_ n2_ n3_ n4_ n5_ n6_ n7_ n8_ n9_ n10_ n11_ n12_ n13_ n14_ n15_ n16_ n17_ n18_ n19_ n20_ n21_; (try clear hb); (try clear hb2); (try clear hk); (try clear hi); (try clear ho0); (try clear ho1); (try clear ho2)) | ((with_reducible refine gate_dst (N := 14) rfl ?_); refine box_event ?hg (N := 14) ?hd (cs := #[.slice none 0 0, .slice none 0 0, .slice none 0 0, .int .i64 0, .int .i64 0]) (t := 29) ?hr ?_; (case hd => rfl); (case hg => rfl); (case hr => first | (go_simp; done) | (go_simp; rfl)); intro gb346 hg w180 hbox hb; have n0_ := Aside0.mk (Kd.R_below (by (with_reducible repeat (first | apply Kd.R_alloc | apply Kd.R_drewN | apply Kd.R_drew)); exact HO_269000.out) hb); have n1_ := Aside0.mk (Kd.R_below (by (with_reducible repeat (first | apply Kd.R_alloc | apply Kd.R_drewN | apply Kd.R_drew)); exact HO_269001.out) hb); have n2_ := Aside0.mk (Kd.R_below (by (with_reducible repeat (first | apply Kd.R_alloc | apply Kd.R_drewN | apply Kd.R_drew)); exact HO_269002.out) hb); have n3_ := Aside0.mk (Kd.R_below (by (with_reducible repeat (first | apply Kd.R_alloc | apply Kd.R_drewN | apply Kd.R_drew)); exact HO_282000.out) hb); have n4_ := Aside0.mk (Kd.R_below (by (with_reducible repeat (first | apply Kd.R_alloc | apply Kd.R_drewN | apply Kd.R_drew)); exact HO_282001.out) hb); have n5_ := Aside0.mk (Kd.R_below (by (with_reducible repeat (first | apply Kd.R_alloc | apply Kd.R_drewN | apply Kd.R_drew)); exact HO_282002.out) hb); have n6_ := Aside0.mk (Kd.R_below (by (with_reducible repeat (first | apply Kd.R_alloc | apply Kd.R_drewN | apply Kd.R_drew)); exact HO_296000.out) hb); have n7_ := Aside0.mk (Kd.R_below (by (with_reducible repeat (first | apply Kd.R_alloc | apply Kd.R_drewN | apply Kd.R_drew)); exact HO_296001.out) hb); have n8_ := Aside0.mk (Kd.R_below (by (with_reducible repeat (first | apply Kd.R_alloc | apply Kd.R_drewN | apply Kd.R_drew)); exact HO_296002.out) hb); have n9_ := Aside0.mk (Kd.R_below (by (with_reducible repeat (first | apply Kd.R_alloc | apply Kd.R_drewN | apply Kd.R_drew)); exact HO335.out) hb); have n10_ := Aside0.mk (Kd.R_below (by (with_reducible repeat (first | apply Kd.R_alloc | apply Kd.R_drewN | apply Kd.R_drew)); exact HO338.out) hb); have n11_ := Aside0.mk (Kd.R_below (by (with_reducible repeat (first | apply Kd.R_alloc | apply Kd.R_drewN | apply Kd.R_drew)); exact HO341.out) hb); have n12_ := Aside0.mk (blk_below (g := gb242) (o := .cells #[.slice A0_0 l0_0.length c0_0, .slice A0_1 l0_1.length c0_1, .slice A0_2 l0_2.length c0_2, .int .i64 a0_3, .int .i64 a0_4] 25 (0, 0)) (by (with_reducible repeat (first | refine blk_drewN ?_ _ | refine blk_drew ?_ | refine blk_alloc ?_ _)); exact BK242.out) hb); have n13_ := Aside0.mk (blk_below (g := gb268) (o := .cells #[.slice Ao22 t255.length co22, .slice Ao26 t258.length co26, .slice Ao27 t261.length co27, .int .i64 t264, .int .i64 t265] 29 (0, 0)) (by (with_reducible repeat (first | refine blk_drewN ?_ _ | refine blk_drew ?_ | refine blk_alloc ?_ _)); exact BK268.out) hb); have n14_ := Aside0.mk (blk_below (g := gb269) (o := .cells #[.int .i64 t266, .int .i64 t267] 37 (0, 0)) (by (with_reducible repeat (first | refine blk_drewN ?_ _ | refine blk_drew ?_ | refine blk_alloc ?_ _)); exact BK269.out) hb); have n15_ := Aside0.mk (blk_below (g := gb281) (o := .cells #[.slice Ao33 t312.length co33, .slice Ao38 t313.length co38, .slice Ao39 t314.length co39, .int .i64 t279, .int .i64 t280] 29 (0, 0)) (by (with_reducible repeat (first | refine blk_drewN ?_ _ | refine blk_drew ?_ | refine blk_alloc ?_ _)); exact BK281.out) hb); have n16_ := Aside0.mk (blk_below (g := gb295) (o := .cells #[.slice Ao43 t318.length co43, .slice Ao50 t319.length co50, .slice Ao51 t320.length co51, .int .i64 t291, .int .i64 t292] 29 (0, 0)) (by (with_reducible repeat (first | refine blk_drewN ?_ _ | refine blk_drew ?_ | refine blk_alloc ?_ _)); exact BK295.out) hb); have n17_ := Aside0.mk (blk_below (g := gb296) (o := .cells #[.int .i64 t293, .int .i64 t294] 37 (0, 0)) (by (with_reducible repeat (first | refine blk_drewN ?_ _ | refine blk_drew ?_ | refine blk_alloc ?_ _)); exact BK296.out) hb); have n18_ := Aside0.mk (below_step (by repeat (first | (with_reducible first | exact HB.out | apply below_alloc | apply pw_below_drewN | apply below_drew1 | refine below_set ?_ GE242.out | refine below_set ?_ GE268.out | refine below_set ?_ GE269.out | refine below_set ?_ GE281.out | refine below_set ?_ GE295.out | refine below_set ?_ GE296.out) | exact HB.out)) hb); have n19_ := Aside0.mk (hbox); have n20_ := Aside0.mk ((by rw [hg]; exact (below_size (by repeat (first | (with_reducible first | exact HB.out | apply below_alloc | apply pw_below_drewN | apply below_drew1 | refine below_set ?_ GE242.out | refine below_set ?_ GE268.out | refine below_set ?_ GE269.out | refine below_set ?_ GE281.out | refine below_set ?_ GE295.out | refine below_set ?_ GE296.out) | exact HB.out))) : w.heap.size ≤ gb346)); have n21_ := Aside0.mk ((by rw [hg]; exact (below_size (by repeat (first | (with_reducible first | exact HB.out | apply below_alloc | apply pw_below_drewN | apply below_drew1 | refine below_set ?_ GE242.out | refine below_set ?_ GE268.out | refine below_set ?_ GE269.out | refine below_set ?_ GE281.out | refine below_set ?_ GE295.out | refine below_set ?_ GE296.out) | exact HB.out))) : w.heap.size ≤ gb346)); have n22_ := Aside0.mk ((by rw [hg]; exact Nat.ne_of_lt (blk_lt (g := gb242) (o := .cells #[.slice A0_0 l0_0.length c0_0, .slice A0_1 l0_1.length c0_1, .slice A0_2 l0_2.length c0_2, .int .i64 a0_3, .int .i64 a0_4] 25 (0, 0)) (by (with_reducible repeat (first | refine blk_drewN ?_ _ | refine blk_drew ?_ | refine blk_alloc ?_ _)); exact BK242.out)) : gb242 ≠ gb346)); have n23_ := Aside0.mk ((by rw [hg]; exact Nat.ne_of_gt (blk_lt (g := gb242) (o := .cells #[.slice A0_0 l0_0.length c0_0, .slice A0_1 l0_1.length c0_1, .slice A0_2 l0_2.length c0_2, .int .i64 a0_3, .int .i64 a0_4] 25 (0, 0)) (by (with_reducible repeat (first | refine blk_drewN ?_ _ | refine blk_drew ?_ | refine blk_alloc ?_ _)); exact BK242.out)) : gb346 ≠ gb242)); have n24_ := Aside0.mk ((by rw [hg]; exact Nat.ne_of_lt (blk_lt (g := gb268) (o := .cells #[.slice Ao22 t255.length co22, .slice Ao26 t258.length co26, .slice Ao27 t261.length co27, .int .i64 t264, .int .i64 t265] 29 (0, 0)) (by (with_reducible repeat (first | refine blk_drewN ?_ _ | refine blk_drew ?_ | refine blk_alloc ?_ _)); exact BK268.out)) : gb268 ≠ gb346)); have n25_ := Aside0.mk ((by rw [hg]; exact Nat.ne_of_gt (blk_lt (g := gb268) (o := .cells #[.slice Ao22 t255.length co22, .slice Ao26 t258.length co26, .slice Ao27 t261.length co27, .int .i64 t264, .int .i64 t265] 29 (0, 0)) (by (with_reducible repeat (first | refine blk_drewN ?_ _ | refine blk_drew ?_ | refine blk_alloc ?_ _)); exact BK268.out)) : gb346 ≠ gb268)); have n26_ := Aside0.mk ((by rw [hg]; exact Nat.ne_of_lt (blk_lt (g := gb269) (o := .cells #[.int .i64 t266, .int .i64 t267] 37 (0, 0)) (by (with_reducible repeat (first | refine blk_drewN ?_ _ | refine blk_drew ?_ | refine blk_alloc ?_ _)); exact BK269.out)) : gb269 ≠ gb346)); have n27_ := Aside0.mk ((by rw [hg]; exact Nat.ne_of_gt (blk_lt (g := gb269) (o := .cells #[.int .i64 t266, .int .i64 t267] 37 (0, 0)) (by (with_reducible repeat (first | refine blk_drewN ?_ _ | refine blk_drew ?_ | refine blk_alloc ?_ _)); exact BK269.out)) : gb346 ≠ gb269)); have n28_ := Aside0.mk ((by rw [hg]; exact Nat.ne_of_lt (blk_lt (g := gb281) (o := .cells #[.slice Ao33 t312.length co33, .slice Ao38 t313.length co38, .slice Ao39 t314.length co39, .int .i64 t279, .int .i64 t280] 29 (0, 0)) (by (with_reducible repeat (first | refine blk_drewN ?_ _ | refine blk_drew ?_ | refine blk_alloc ?_ _)); exact BK281.out)) : gb281 ≠ gb346)); have n29_ := Aside0.mk ((by rw [hg]; exact Nat.ne_of_gt (blk_lt (g := gb281) (o := .cells #[.slice Ao33 t312.length co33, .slice Ao38 t313.length co38, .slice Ao39 t314.length co39, .int .i64 t279, .int .i64 t280] 29 (0, 0)) (by (with_reducible repeat (first | refine blk_drewN ?_ _ | refine blk_drew ?_ | refine blk_alloc ?_ _)); exact BK281.out)) : gb346 ≠ gb281)); have n30_ := Aside0.mk ((by rw [hg]; exact Nat.ne_of_lt (blk_lt (g := gb295) (o := .cells #[.slice Ao43 t318.length co43, .slice Ao50 t319.length co50, .slice Ao51 t320.length co51, .int .i64 t291, .int .i64 t292] 29 (0, 0)) (by (with_reducible repeat (first | refine blk_drewN ?_ _ | refine blk_drew ?_ | refine blk_alloc ?_ _)); exact BK295.out)) : gb295 ≠ gb346)); have n31_ := Aside0.mk ((by rw [hg]; exact Nat.ne_of_gt (blk_lt (g := gb295) (o := .cells #[.slice Ao43 t318.length co43, .slice Ao50 t319.length co50, .slice Ao51 t320.length co51, .int .i64 t291, .int .i64 t292] 29 (0, 0)) (by (with_reducible repeat (first | refine blk_drewN ?_ _ | refine blk_drew ?_ | refine blk_alloc ?_ _)); exact BK295.out)) : gb346 ≠ gb295)); have n32_ := Aside0.mk ((by rw [hg]; exact Nat.ne_of_lt (blk_lt (g := gb296) (o := .cells #[.int .i64 t293, .int .i64 t294] 37 (0, 0)) (by (with_reducible repeat (first | refine blk_drewN ?_ _ | refine blk_drew ?_ | refine blk_alloc ?_ _)); exact BK296.out)) : gb296 ≠ gb346)); have n33_ := Aside0.mk ((by rw [hg]; exact Nat.ne_of_gt (blk_lt (g := gb296) (o := .cells #[.int .i64 t293, .int .i64 t294] 37 (0, 0)) (by (with_reducible repeat (first | refine blk_drewN ?_ _ | refine blk_drew ?_ | refine blk_alloc ?_ _)); exact BK296.out)) : gb346 ≠ gb296)); clear HO_269000; clear HO_269001; clear HO_269002; clear HO_282000; clear HO_282001; clear HO_282002; clear HO_296000; clear HO_296001; clear HO_296002; clear HO335; clear HO338; clear HO341; clear BK242; clear BK268; clear BK269; clear BK281; clear BK295; clear BK296; clear HB; have HO_269000 := n0_; have HO_269001 := n1_; have HO_269002 := n2_; have HO_282000 := n3_; have HO_282001 := n4_; have HO_282002 := n5_; have HO_296000 := n6_; have HO_296001 := n7_; have HO_296002 := n8_; have HO335 := n9_; have HO338 := n10_; have HO341 := n11_; have BK242 := n12_; have BK268 := n13_; have BK269 := n14_; have BK281 := n15_; have BK295 := n16_; have BK296 := n17_; have HB := n18_; have BK346 := n19_; have GW346 := n20_; have GE346 := n21_; have NB242_346 := n22_; have NB346_242 := n23_; have NB268_346 := n24_; have NB346_268 := n25_; have NB269_346 := n26_; have NB346_269 := n27_; have NB281_346 := n28_; have NB346_281 := n29_; have NB295_346 := n30_; have NB346_295 := n31_; have NB296_346 := n32_; have NB346_296 := n33_; clear n0_ n1_ n2_ n3_ n4_ n5_ n6_ n7_ n8_ n9_ n10_ n11_ n12_ n13_ n14_ n15_ n16_ n17_ n18_ n19_ n20_ n21_ n22_ n23_ n24_ n25_ n26_ n27_ n28_ n29_ n30_ n31_ n32_ n33_; clear hb hbox hg) | ((with_reducible refine gate_dst (N := 15) rfl ?_); refine box_event ?hg (N := 15) ?hd (cs := #[.int .i64 0, .int .i64 0]) (t := 37) ?hr ?_; (case hd => rfl); (case hg => rfl); (case hr => first | (go_simp; done) | (go_simp; rfl)); intro gb347 hg w181 hbox hb; have n0_ := Aside0.mk (Kd.R_below (by (with_reducible repeat (first | apply Kd.R_alloc | apply Kd.R_drewN | apply Kd.R_drew)); exact HO_269000.out) hb); have n1_ := Aside0.mk (Kd.R_below (by (with_reducible repeat (first | apply Kd.R_alloc | apply Kd.R_drewN | apply Kd.R_drew)); exact HO_269001.out) hb); have n2_ := Aside0.mk (Kd.R_below (by (with_reducible repeat (first | apply Kd.R_alloc | apply Kd.R_drewN | apply Kd.R_drew)); exact HO_269002.out) hb); have n3_ := Aside0.mk (Kd.R_below (by (with_reducible repeat (first | apply Kd.R_alloc | apply Kd.R_drewN | apply Kd.R_drew)); exact HO_282000.out) hb); have n4_ := Aside0.mk (Kd.R_below (by (with_reducible repeat (first | apply Kd.R_alloc | apply Kd.R_drewN | apply Kd.R_drew)); exact HO_282001.out) hb); have n5_ := Aside0.mk (Kd.R_below (by (with_reducible repeat (first | apply Kd.R_alloc | apply Kd.R_drewN | apply Kd.R_drew)); exact HO_282002.out) hb); have n6_ := Aside0.mk (Kd.R_below (by (with_reducible repeat (first | apply Kd.R_alloc | apply Kd.R_drewN | apply Kd.R_drew)); exact HO_296000.out) hb); have n7_ := Aside0.mk (Kd.R_below (by (with_reducible repeat (first | apply Kd.R_alloc | apply Kd.R_drewN | apply Kd.R_drew)); exact HO_296001.out) hb); have n8_ := Aside0.mk (Kd.R_below (by (with_reducible repeat (first | apply Kd.R_alloc | apply Kd.R_drewN | apply Kd.R_drew)); exact HO_296002.out) hb); have n9_ := Aside0.mk (Kd.R_below (by (with_reducible repeat (first | apply Kd.R_alloc | apply Kd.R_drewN | apply Kd.R_drew)); exact HO335.out) hb); have n10_ := Aside0.mk (Kd.R_below (by (with_reducible repeat (first | apply Kd.R_alloc | apply Kd.R_drewN | apply Kd.R_drew)); exact HO338.out) hb); have n11_ := Aside0.mk (Kd.R_below (by (with_reducible repeat (first | apply Kd.R_alloc | apply Kd.R_drewN | apply Kd.R_drew)); exact HO341.out) hb); have n12_ := Aside0.mk (blk_below (g := gb242) (o := .cells #[.slice A0_0 l0_0.length c0_0, .slice A0_1 l0_1.length c0_1, .slice A0_2 l0_2.length c0_2, .int .i64 a0_3, .int .i64 a0_4] 25 (0, 0)) (by (with_reducible repeat (first | refine blk_drewN ?_ _ | refine blk_drew ?_ | refine blk_alloc ?_ _)); exact BK242.out) hb); have n13_ := Aside0.mk (blk_below (g := gb268) (o := .cells #[.slice Ao22 t255.length co22, .slice Ao26 t258.length co26, .slice Ao27 t261.length co27, .int .i64 t264, .int .i64 t265] 29 (0, 0)) (by (with_reducible repeat (first | refine blk_drewN ?_ _ | refine blk_drew ?_ | refine blk_alloc ?_ _)); exact BK268.out) hb); have n14_ := Aside0.mk (blk_below (g := gb269) (o := .cells #[.int .i64 t266, .int .i64 t267] 37 (0, 0)) (by (with_reducible repeat (first | refine blk_drewN ?_ _ | refine blk_drew ?_ | refine blk_alloc ?_ _)); exact BK269.out) hb); have n15_ := Aside0.mk (blk_below (g := gb281) (o := .cells #[.slice Ao33 t312.length co33, .slice Ao38 t313.length co38, .slice Ao39 t314.length co39, .int .i64 t279, .int .i64 t280] 29 (0, 0)) (by (with_reducible repeat (first | refine blk_drewN ?_ _ | refine blk_drew ?_ | refine blk_alloc ?_ _)); exact BK281.out) hb); have n16_ := Aside0.mk (blk_below (g := gb295) (o := .cells #[.slice Ao43 t318.length co43, .slice Ao50 t319.length co50, .slice Ao51 t320.length co51, .int .i64 t291, .int .i64 t292] 29 (0, 0)) (by (with_reducible repeat (first | refine blk_drewN ?_ _ | refine blk_drew ?_ | refine blk_alloc ?_ _)); exact BK295.out) hb); have n17_ := Aside0.mk (blk_below (g := gb296) (o := .cells #[.int .i64 t293, .int .i64 t294] 37 (0, 0)) (by (with_reducible repeat (first | refine blk_drewN ?_ _ | refine blk_drew ?_ | refine blk_alloc ?_ _)); exact BK296.out) hb); have n18_ := Aside0.mk (blk_below (g := gb346) (o := .cells #[.slice none 0 0, .slice none 0 0, .slice none 0 0, .int .i64 0, .int .i64 0] 29 (0, 0)) (by (with_reducible repeat (first | refine blk_drewN ?_ _ | refine blk_drew ?_ | refine blk_alloc ?_ _)); exact BK346.out) hb); have n19_ := Aside0.mk (below_step (by repeat (first | (with_reducible first | exact HB.out | apply below_alloc | apply pw_below_drewN | apply below_drew1 | refine below_set ?_ GE242.out | refine below_set ?_ GE268.out | refine below_set ?_ GE269.out | refine below_set ?_ GE281.out | refine below_set ?_ GE295.out | refine below_set ?_ GE296.out | refine below_set ?_ GE346.out) | exact HB.out)) hb); have n20_ := Aside0.mk (hbox); have n21_ := Aside0.mk ((by rw [hg]; exact (below_size (by repeat (first | (with_reducible first | exact HB.out | apply below_alloc | apply pw_below_drewN | apply below_drew1 | refine below_set ?_ GE242.out | refine below_set ?_ GE268.out | refine below_set ?_ GE269.out | refine below_set ?_ GE281.out | refine below_set ?_ GE295.out | refine below_set ?_ GE296.out | refine below_set ?_ GE346.out) | exact HB.out))) : w.heap.size ≤ gb347)); have n22_ := Aside0.mk ((by rw [hg]; exact (below_size (by repeat (first | (with_reducible first | exact HB.out | apply below_alloc | apply pw_below_drewN | apply below_drew1 | refine below_set ?_ GE242.out | refine below_set ?_ GE268.out | refine below_set ?_ GE269.out | refine below_set ?_ GE281.out | refine below_set ?_ GE295.out | refine below_set ?_ GE296.out | refine below_set ?_ GE346.out) | exact HB.out))) : w.heap.size ≤ gb347)); have n23_ := Aside0.mk ((by rw [hg]; exact Nat.ne_of_lt (blk_lt (g := gb242) (o := .cells #[.slice A0_0 l0_0.length c0_0, .slice A0_1 l0_1.length c0_1, .slice A0_2 l0_2.length c0_2, .int .i64 a0_3, .int .i64 a0_4] 25 (0, 0)) (by (with_reducible repeat (first | refine blk_drewN ?_ _ | refine blk_drew ?_ | refine blk_alloc ?_ _)); exact BK242.out)) : gb242 ≠ gb347)); have n24_ := Aside0.mk ((by rw [hg]; exact Nat.ne_of_gt (blk_lt (g := gb242) (o := .cells #[.slice A0_0 l0_0.length c0_0, .slice A0_1 l0_1.length c0_1, .slice A0_2 l0_2.length c0_2, .int .i64 a0_3, .int .i64 a0_4] 25 (0, 0)) (by (with_reducible repeat (first | refine blk_drewN ?_ _ | refine blk_drew ?_ | refine blk_alloc ?_ _)); exact BK242.out)) : gb347 ≠ gb242)); have n25_ := Aside0.mk ((by rw [hg]; exact Nat.ne_of_lt (blk_lt (g := gb268) (o := .cells #[.slice Ao22 t255.length co22, .slice Ao26 t258.length co26, .slice Ao27 t261.length co27, .int .i64 t264, .int .i64 t265] 29 (0, 0)) (by (with_reducible repeat (first | refine blk_drewN ?_ _ | refine blk_drew ?_ | refine blk_alloc ?_ _)); exact BK268.out)) : gb268 ≠ gb347)); have n26_ := Aside0.mk ((by rw [hg]; exact Nat.ne_of_gt (blk_lt (g := gb268) (o := .cells #[.slice Ao22 t255.length co22, .slice Ao26 t258.length co26, .slice Ao27 t261.length co27, .int .i64 t264, .int .i64 t265] 29 (0, 0)) (by (with_reducible repeat (first | refine blk_drewN ?_ _ | refine blk_drew ?_ | refine blk_alloc ?_ _)); exact BK268.out)) : gb347 ≠ gb268)); have n27_ := Aside0.mk ((by rw [hg]; exact Nat.ne_of_lt (blk_lt (g := gb269) (o := .cells #[.int .i64 t266, .int .i64 t267] 37 (0, 0)) (by (with_reducible repeat (first | refine blk_drewN ?_ _ | refine blk_drew ?_ | refine blk_alloc ?_ _)); exact BK269.out)) : gb269 ≠ gb347)); have n28_ := Aside0.mk ((by rw [hg]; exact Nat.ne_of_gt (blk_lt (g := gb269) (o := .cells #[.int .i64 t266, .int .i64 t267] 37 (0, 0)) (by (with_reducible repeat (first | refine blk_drewN ?_ _ | refine blk_drew ?_ | refine blk_alloc ?_ _)); exact BK269.out)) : gb347 ≠ gb269)); have n29_ := Aside0.mk ((by rw [hg]; exact Nat.ne_of_lt (blk_lt (g := gb281) (o := .cells #[.slice Ao33 t312.length co33, .slice Ao38 t313.length co38, .slice Ao39 t314.length co39, .int .i64 t279, .int .i64 t280] 29 (0, 0)) (by (with_reducible repeat (first | refine blk_drewN ?_ _ | refine blk_drew ?_ | refine blk_alloc ?_ _)); exact BK281.out)) : gb281 ≠ gb347)); have n30_ := Aside0.mk ((by rw [hg]; exact Nat.ne_of_gt (blk_lt (g := gb281) (o := .cells #[.slice Ao33 t312.length co33, .slice Ao38 t313.length co38, .slice Ao39 t314.length co39, .int .i64 t279, .int .i64 t280] 29 (0, 0)) (by (with_reducible repeat (first | refine blk_drewN ?_ _ | refine blk_drew ?_ | refine blk_alloc ?_ _)); exact BK281.out)) : gb347 ≠ gb281)); have n31_ := Aside0.mk ((by rw [hg]; exact Nat.ne_of_lt (blk_lt (g := gb295) (o := .cells #[.slice Ao43 t318.length co43, .slice Ao50 t319.length co50, .slice Ao51 t320.length co51, .int .i64 t291, .int .i64 t292] 29 (0, 0)) (by (with_reducible repeat (first | refine blk_drewN ?_ _ | refine blk_drew ?_ | refine blk_alloc ?_ _)); exact BK295.out)) : gb295 ≠ gb347)); have n32_ := Aside0.mk ((by rw [hg]; exact Nat.ne_of_gt (blk_lt (g := gb295) (o := .cells #[.slice Ao43 t318.length co43, .slice Ao50 t319.length co50, .slice Ao51 t320.length co51, .int .i64 t291, .int .i64 t292] 29 (0, 0)) (by (with_reducible repeat (first | refine blk_drewN ?_ _ | refine blk_drew ?_ | refine blk_alloc ?_ _)); exact BK295.out)) : gb347 ≠ gb295)); have n33_ := Aside0.mk ((by rw [hg]; exact Nat.ne_of_lt (blk_lt (g := gb296) (o := .cells #[.int .i64 t293, .int .i64 t294] 37 (0, 0)) (by (with_reducible repeat (first | refine blk_drewN ?_ _ | refine blk_drew ?_ | refine blk_alloc ?_ _)); exact BK296.out)) : gb296 ≠ gb347)); have n34_ := Aside0.mk ((by rw [hg]; exact Nat.ne_of_gt (blk_lt (g := gb296) (o := .cells #[.int .i64 t293, .int .i64 t294] 37 (0, 0)) (by (with_reducible repeat (first | refine blk_drewN ?_ _ | refine blk_drew ?_ | refine blk_alloc ?_ _)); exact BK296.out)) : gb347 ≠ gb296)); have n35_ := Aside0.mk ((by rw [hg]; exact Nat.ne_of_lt (blk_lt (g := gb346) (o := .cells #[.slice none 0 0, .slice none 0 0, .slice none 0 0, .int .i64 0, .int .i64 0] 29 (0, 0)) (by (with_reducible repeat (first | refine blk_drewN ?_ _ | refine blk_drew ?_ | refine blk_alloc ?_ _)); exact BK346.out)) : gb346 ≠ gb347)); have n36_ := Aside0.mk ((by rw [hg]; exact Nat.ne_of_gt (blk_lt (g := gb346) (o := .cells #[.slice none 0 0, .slice none 0 0, .slice none 0 0, .int .i64 0, .int .i64 0] 29 (0, 0)) (by (with_reducible repeat (first | refine blk_drewN ?_ _ | refine blk_drew ?_ | refine blk_alloc ?_ _)); exact BK346.out)) : gb347 ≠ gb346)); clear HO_269000; clear HO_269001; clear HO_269002; clear HO_282000; clear HO_282001; clear HO_282002; clear HO_296000; clear HO_296001; clear HO_296002; clear HO335; clear HO338; clear HO341; clear BK242; clear BK268; clear BK269; clear BK281; clear BK295; clear BK296; clear BK346; clear HB; have HO_269000 := n0_; have HO_269001 := n1_; have HO_269002 := n2_; have HO_282000 := n3_; have HO_282001 := n4_; have HO_282002 := n5_; have HO_296000 := n6_; have HO_296001 := n7_; have HO_296002 := n8_; have HO335 := n9_; have HO338 := n10_; have HO341 := n11_; have BK242 := n12_; have BK268 := n13_; have BK269 := n14_; have BK281 := n15_; have BK295 := n16_; have BK296 := n17_; have BK346 := n18_; have HB := n19_; have BK347 := n20_; have GW347 := n21_; have GE347 := n22_; have NB242_347 := n23_; have NB347_242 := n24_; have NB268_347 := n25_; have NB347_268 := n26_; have NB269_347 := n27_; have NB347_269 := n28_; have NB281_347 := n29_; have NB347_281 := n30_; have NB295_347 := n31_; have NB347_295 := n32_; have NB296_347 := n33_; have NB347_296 := n34_; have NB346_347 := n35_; have NB347_346 := n36_; clear n0_ n1_ n2_ n3_ n4_ n5_ n6_ n7_ n8_ n9_ n10_ n11_ n12_ n13_ n14_ n15_ n16_ n17_ n18_ n19_ n20_ n21_ n22_ n23_ n24_ n25_ n26_ n27_ n28_ n29_ n30_ n31_ n32_ n33_ n34_ n35_ n36_; clear hb hbox hg; obtain ⟨Ao182, co182, eo182⟩ := Kd.R_slice HO335.out; subst eo182; have hnb183 := NB346_242.out; have hnc183 := NB242_346.out; have hnb184 := NB346_268.out; have hnc184 := NB268_346.out; have hnb185 := NB346_269.out; have hnc185 := NB269_346.out; have hnb186 := NB346_281.out; have hnc186 := NB281_346.out; have hnb187 := NB346_295.out; have hnc187 := NB295_346.out; have hnb188 := NB346_296.out; have hnc188 := NB296_346.out; have hnb189 := NB346_347.out; have hnc189 := NB347_346.out; have hcz190_0 : w181.cell? ⟨gb346, 0, none⟩ = some (.slice none 0 0) := (blk_cell BK346.out 0).trans rfl; have hcz190_1 : w181.cell? ⟨gb346, 1, none⟩ = some (.slice none 0 0) := (blk_cell BK346.out 1).trans rfl; have hcz190_2 : w181.cell? ⟨gb346, 2, none⟩ = some (.slice none 0 0) := (blk_cell BK346.out 2).trans rfl; have hcz190_3 : w181.cell? ⟨gb346, 3, none⟩ = some (.int .i64 0) := (blk_cell BK346.out 3).trans rfl; have hcz190_4 : w181.cell? ⟨gb346, 4, none⟩ = some (.int .i64 0) := (blk_cell BK346.out 4).trans rfl; have hfz190_0 := blk_frozen BK346.out 0; have hfz190_1 := blk_frozen BK346.out 1; have hfz190_2 := blk_frozen BK346.out 2; have hfz190_3 := blk_frozen BK346.out 3; have hfz190_4 := blk_frozen BK346.out 4; obtain ⟨Ao191, co191, eo191⟩ := Kd.R_slice HO338.out; subst eo191; obtain ⟨Ao192, co192, eo192⟩ := Kd.R_slice HO341.out; subst eo192; have hnb193 := NB347_242.out; have hnc193 := NB242_347.out; have hnb194 := NB347_268.out; have hnc194 := NB268_347.out; have hnb195 := NB347_269.out; have hnc195 := NB269_347.out; have hnb196 := NB347_281.out; have hnc196 := NB281_347.out; have hnb197 := NB347_295.out; have hnc197 := NB295_347.out; have hnb198 := NB347_296.out; have hnc198 := NB296_347.out; have hcz199_0 : w181.cell? ⟨gb347, 0, none⟩ = some (.int .i64 0) := (blk_cell BK347.out 0).trans rfl; have hcz199_1 : w181.cell? ⟨gb347, 1, none⟩ = some (.int .i64 0) := (blk_cell BK347.out 1).trans rfl; have hfz199_0 := blk_frozen BK347.out 0; have hfz199_1 := blk_frozen BK347.out 1))
      (try simp only [Act.put, List.setIfInBounds_toArray, List.set_cons_zero, List.set_cons_succ])
      go_cut [95] (fun v95 wc => ∃ (kq : Nat) (x95_167 : Bool), v95 = .bool x95_167 ∧ Aside0 (laws_FnExactFresh.j8 kq t317 x95_167 t318 t319 t320 t291 t292 = some r) ∧ Aside0 (kq ≤ kj163) ∧ Aside0 (Kd.R k96 96 wc w.heap.size (fun k_ => some k_ ≠ ((.slice Ao33 t312.length co33) : Value).ownBlock ∧ some k_ ≠ ((.slice Ao43 t318.length co43) : Value).ownBlock ∧ some k_ ≠ ((.slice Ao182 t333.length co182) : Value).ownBlock) (.slice Ao22 t255.length co22) t255) ∧ Aside0 (Kd.R (Kd.int .i64) 3 wc w.heap.size (fun k_ => some k_ ≠ ((.slice Ao27 t261.length co27) : Value).ownBlock ∧ some k_ ≠ ((.slice Ao38 t313.length co38) : Value).ownBlock ∧ some k_ ≠ ((.slice Ao39 t314.length co39) : Value).ownBlock ∧ some k_ ≠ ((.slice Ao50 t319.length co50) : Value).ownBlock ∧ some k_ ≠ ((.slice Ao51 t320.length co51) : Value).ownBlock ∧ some k_ ≠ ((.slice Ao191 t336.length co191) : Value).ownBlock ∧ some k_ ≠ ((.slice Ao192 t339.length co192) : Value).ownBlock) (.slice Ao26 t258.length co26) t258) ∧ Aside0 (Kd.R (Kd.int .i64) 3 wc w.heap.size (fun k_ => some k_ ≠ ((.slice Ao26 t258.length co26) : Value).ownBlock ∧ some k_ ≠ ((.slice Ao38 t313.length co38) : Value).ownBlock ∧ some k_ ≠ ((.slice Ao39 t314.length co39) : Value).ownBlock ∧ some k_ ≠ ((.slice Ao50 t319.length co50) : Value).ownBlock ∧ some k_ ≠ ((.slice Ao51 t320.length co51) : Value).ownBlock ∧ some k_ ≠ ((.slice Ao191 t336.length co191) : Value).ownBlock ∧ some k_ ≠ ((.slice Ao192 t339.length co192) : Value).ownBlock) (.slice Ao27 t261.length co27) t261) ∧ Aside0 (Kd.R k96 96 wc w.heap.size (fun k_ => some k_ ≠ ((.slice Ao22 t255.length co22) : Value).ownBlock ∧ some k_ ≠ ((.slice Ao43 t318.length co43) : Value).ownBlock ∧ some k_ ≠ ((.slice Ao182 t333.length co182) : Value).ownBlock) (.slice Ao33 t312.length co33) t312) ∧ Aside0 (Kd.R (Kd.int .i64) 3 wc w.heap.size (fun k_ => some k_ ≠ ((.slice Ao26 t258.length co26) : Value).ownBlock ∧ some k_ ≠ ((.slice Ao27 t261.length co27) : Value).ownBlock ∧ some k_ ≠ ((.slice Ao39 t314.length co39) : Value).ownBlock ∧ some k_ ≠ ((.slice Ao50 t319.length co50) : Value).ownBlock ∧ some k_ ≠ ((.slice Ao51 t320.length co51) : Value).ownBlock ∧ some k_ ≠ ((.slice Ao191 t336.length co191) : Value).ownBlock ∧ some k_ ≠ ((.slice Ao192 t339.length co192) : Value).ownBlock) (.slice Ao38 t313.length co38) t313) ∧ Aside0 (Kd.R (Kd.int .i64) 3 wc w.heap.size (fun k_ => some k_ ≠ ((.slice Ao26 t258.length co26) : Value).ownBlock ∧ some k_ ≠ ((.slice Ao27 t261.length co27) : Value).ownBlock ∧ some k_ ≠ ((.slice Ao38 t313.length co38) : Value).ownBlock ∧ some k_ ≠ ((.slice Ao50 t319.length co50) : Value).ownBlock ∧ some k_ ≠ ((.slice Ao51 t320.length co51) : Value).ownBlock ∧ some k_ ≠ ((.slice Ao191 t336.length co191) : Value).ownBlock ∧ some k_ ≠ ((.slice Ao192 t339.length co192) : Value).ownBlock) (.slice Ao39 t314.length co39) t314) ∧ Aside0 (Kd.R k96 96 wc w.heap.size (fun k_ => some k_ ≠ ((.slice Ao22 t255.length co22) : Value).ownBlock ∧ some k_ ≠ ((.slice Ao33 t312.length co33) : Value).ownBlock ∧ some k_ ≠ ((.slice Ao182 t333.length co182) : Value).ownBlock) (.slice Ao43 t318.length co43) t318) ∧ Aside0 (Kd.R (Kd.int .i64) 3 wc w.heap.size (fun k_ => some k_ ≠ ((.slice Ao26 t258.length co26) : Value).ownBlock ∧ some k_ ≠ ((.slice Ao27 t261.length co27) : Value).ownBlock ∧ some k_ ≠ ((.slice Ao38 t313.length co38) : Value).ownBlock ∧ some k_ ≠ ((.slice Ao39 t314.length co39) : Value).ownBlock ∧ some k_ ≠ ((.slice Ao51 t320.length co51) : Value).ownBlock ∧ some k_ ≠ ((.slice Ao191 t336.length co191) : Value).ownBlock ∧ some k_ ≠ ((.slice Ao192 t339.length co192) : Value).ownBlock) (.slice Ao50 t319.length co50) t319) ∧ Aside0 (Kd.R (Kd.int .i64) 3 wc w.heap.size (fun k_ => some k_ ≠ ((.slice Ao26 t258.length co26) : Value).ownBlock ∧ some k_ ≠ ((.slice Ao27 t261.length co27) : Value).ownBlock ∧ some k_ ≠ ((.slice Ao38 t313.length co38) : Value).ownBlock ∧ some k_ ≠ ((.slice Ao39 t314.length co39) : Value).ownBlock ∧ some k_ ≠ ((.slice Ao50 t319.length co50) : Value).ownBlock ∧ some k_ ≠ ((.slice Ao191 t336.length co191) : Value).ownBlock ∧ some k_ ≠ ((.slice Ao192 t339.length co192) : Value).ownBlock) (.slice Ao51 t320.length co51) t320) ∧ Aside0 (Kd.R k96 96 wc w.heap.size (fun k_ => some k_ ≠ ((.slice Ao22 t255.length co22) : Value).ownBlock ∧ some k_ ≠ ((.slice Ao33 t312.length co33) : Value).ownBlock ∧ some k_ ≠ ((.slice Ao43 t318.length co43) : Value).ownBlock) (.slice Ao182 t333.length co182) t333) ∧ Aside0 (Kd.R (Kd.int .i64) 3 wc w.heap.size (fun k_ => some k_ ≠ ((.slice Ao26 t258.length co26) : Value).ownBlock ∧ some k_ ≠ ((.slice Ao27 t261.length co27) : Value).ownBlock ∧ some k_ ≠ ((.slice Ao38 t313.length co38) : Value).ownBlock ∧ some k_ ≠ ((.slice Ao39 t314.length co39) : Value).ownBlock ∧ some k_ ≠ ((.slice Ao50 t319.length co50) : Value).ownBlock ∧ some k_ ≠ ((.slice Ao51 t320.length co51) : Value).ownBlock ∧ some k_ ≠ ((.slice Ao192 t339.length co192) : Value).ownBlock) (.slice Ao191 t336.length co191) t336) ∧ Aside0 (Kd.R (Kd.int .i64) 3 wc w.heap.size (fun k_ => some k_ ≠ ((.slice Ao26 t258.length co26) : Value).ownBlock ∧ some k_ ≠ ((.slice Ao27 t261.length co27) : Value).ownBlock ∧ some k_ ≠ ((.slice Ao38 t313.length co38) : Value).ownBlock ∧ some k_ ≠ ((.slice Ao39 t314.length co39) : Value).ownBlock ∧ some k_ ≠ ((.slice Ao50 t319.length co50) : Value).ownBlock ∧ some k_ ≠ ((.slice Ao51 t320.length co51) : Value).ownBlock ∧ some k_ ≠ ((.slice Ao191 t336.length co191) : Value).ownBlock) (.slice Ao192 t339.length co192) t339) ∧ Aside0 (wc.heap[gb242]? = some (.cells #[(.slice A0_0 l0_0.length c0_0), (.slice A0_1 l0_1.length c0_1), (.slice A0_2 l0_2.length c0_2), .int .i64 a0_3, .int .i64 a0_4] 25 (0, 0))) ∧ Aside0 (wc.heap[gb268]? = some (.cells #[(.slice Ao22 t255.length co22), (.slice Ao26 t258.length co26), (.slice Ao27 t261.length co27), .int .i64 t264, .int .i64 t265] 29 (0, 0))) ∧ Aside0 (wc.heap[gb269]? = some (.cells #[.int .i64 t266, .int .i64 t267] 37 (0, 0))) ∧ Aside0 (wc.heap[gb281]? = some (.cells #[(.slice Ao33 t312.length co33), (.slice Ao38 t313.length co38), (.slice Ao39 t314.length co39), .int .i64 t279, .int .i64 t280] 29 (0, 0))) ∧ Aside0 (wc.heap[gb295]? = some (.cells #[(.slice Ao43 t318.length co43), (.slice Ao50 t319.length co50), (.slice Ao51 t320.length co51), .int .i64 t291, .int .i64 t292] 29 (0, 0))) ∧ Aside0 (wc.heap[gb296]? = some (.cells #[.int .i64 t293, .int .i64 t294] 37 (0, 0))) ∧ Aside0 (wc.heap[gb346]? = some (.cells #[(.slice Ao182 t333.length co182), (.slice Ao191 t336.length co191), (.slice Ao192 t339.length co192), .int .i64 t342, .int .i64 t343] 29 (0, 0))) ∧ Aside0 (wc.heap[gb347]? = some (.cells #[.int .i64 t344, .int .i64 t345] 37 (0, 0))) ∧ Aside0 (Below w.heap.size w wc))
      case first =>
       have H := HC168.out
       clear HC168
       replace H := Option.bind_eq_some_iff.mp H
       obtain ⟨t348, A2000, H⟩ := H
       replace H : (if t348 = true then ((laws_eqValue.f t344 t345 t266 t267).bind fun t349 => (laws_FnExactFresh.j8 kj163 t317 (!t349) t318 t319 t320 t291 t292)) else (laws_FnExactFresh.j8 kj163 t317 true t318 t319 t320 t291 t292)) = some r := H
       have A200 := Aside0.mk A2000
       clear A2000
       by_cases c201 : t348 = true
       ·
        subst c201
        have H1 : ((laws_eqValue.f t344 t345 t266 t267).bind fun t349 => (laws_FnExactFresh.j8 kj163 t317 (!t349) t318 t319 t320 t291 t292)) = some r := by rw [if_pos rfl] at H; exact H
        clear H
        have H := H1
        clear H1
        replace H := Option.bind_eq_some_iff.mp H
        obtain ⟨t349, A2020, H⟩ := H
        replace H : (laws_FnExactFresh.j8 kj163 t317 (!t349) t318 t319 t320 t291 t292) = some r := H
        have A202 := Aside0.mk A2020
        clear A2020
        have H' := Aside0.mk H
        clear H
        have hnb203 := NB346_242.out
        have hnc203 := NB242_346.out
        have hnb204 := NB346_268.out
        have hnc204 := NB268_346.out
        have hnb205 := NB346_269.out
        have hnc205 := NB269_346.out
        have hnb206 := NB346_281.out
        have hnc206 := NB281_346.out
        have hnb207 := NB346_295.out
        have hnc207 := NB295_346.out
        have hnb208 := NB346_296.out
        have hnc208 := NB296_346.out
        have hnb209 := NB346_347.out
        have hnc209 := NB347_346.out
        have hcz210_0 : w181.cell? ⟨gb346, 0, none⟩ = some (.slice none 0 0) := (blk_cell BK346.out 0).trans rfl
        have hcz210_1 : w181.cell? ⟨gb346, 1, none⟩ = some (.slice none 0 0) := (blk_cell BK346.out 1).trans rfl
        have hcz210_2 : w181.cell? ⟨gb346, 2, none⟩ = some (.slice none 0 0) := (blk_cell BK346.out 2).trans rfl
        have hcz210_3 : w181.cell? ⟨gb346, 3, none⟩ = some (.int .i64 0) := (blk_cell BK346.out 3).trans rfl
        have hcz210_4 : w181.cell? ⟨gb346, 4, none⟩ = some (.int .i64 0) := (blk_cell BK346.out 4).trans rfl
        have hfz210_0 := blk_frozen BK346.out 0
        have hfz210_1 := blk_frozen BK346.out 1
        have hfz210_2 := blk_frozen BK346.out 2
        have hfz210_3 := blk_frozen BK346.out 3
        have hfz210_4 := blk_frozen BK346.out 4
        have hnb211 := NB268_242.out
        have hnc211 := NB242_268.out
        have hnb212 := NB268_269.out
        have hnc212 := NB269_268.out
        have hnb213 := NB268_281.out
        have hnc213 := NB281_268.out
        have hnb214 := NB268_295.out
        have hnc214 := NB295_268.out
        have hnb215 := NB268_296.out
        have hnc215 := NB296_268.out
        have hnb216 := NB268_347.out
        have hnc216 := NB347_268.out
        have hcz217_0 : w181.cell? ⟨gb268, 0, none⟩ = some (.slice Ao22 t255.length co22) := (blk_cell BK268.out 0).trans rfl
        have hcz217_1 : w181.cell? ⟨gb268, 1, none⟩ = some (.slice Ao26 t258.length co26) := (blk_cell BK268.out 1).trans rfl
        have hcz217_2 : w181.cell? ⟨gb268, 2, none⟩ = some (.slice Ao27 t261.length co27) := (blk_cell BK268.out 2).trans rfl
        have hcz217_3 : w181.cell? ⟨gb268, 3, none⟩ = some (.int .i64 t264) := (blk_cell BK268.out 3).trans rfl
        have hcz217_4 : w181.cell? ⟨gb268, 4, none⟩ = some (.int .i64 t265) := (blk_cell BK268.out 4).trans rfl
        have hfz217_0 := blk_frozen BK268.out 0
        have hfz217_1 := blk_frozen BK268.out 1
        have hfz217_2 := blk_frozen BK268.out 2
        have hfz217_3 := blk_frozen BK268.out 3
        have hfz217_4 := blk_frozen BK268.out 4
        go_wp2_with (first | ((with_reducible refine gate_callee (f := 14) rfl ?_); refine goesL_ (some 88) rfl rfl Try.func14 (by kernel_rfl) rfl #[.agg #[.slice Ao182 t333.length co182, .slice Ao191 t336.length co191, .slice Ao192 t339.length co192, .int .i64 t342, .int .i64 t343], .agg #[.slice Ao22 t255.length co22, .slice Ao26 t258.length co26, .slice Ao27 t261.length co27, .int .i64 t264, .int .i64 t265]] rfl (by (try simp only [List.map_toArray, List.map_cons, List.map_nil]); first | done | rfl | (simp only [List.length_drop, List.length_take]; rfl)) ?_; (with_reducible refine (laws_eqMemory.calls kj163 _ _ t333 _ _ t336 _ _ t339 t342 t343 _ _ t255 _ _ t258 _ _ t261 t264 t265 true _ ?side1 ?side2 ?side3 ?side4 ?side5 ?side6 ?side7 ?side8 ?side9 ?side10 ?side11 ?side12 A200.out).mono ?_); (case side1 => refine (Kd.R_reads' (e := 96) (base := w.heap.size) (ok := fun k_ => ((((True ∧ some k_ ≠ (.slice Ao22 t255.length co22 : Value).ownBlock) ∧ some k_ ≠ (.slice Ao33 t312.length co33 : Value).ownBlock) ∧ some k_ ≠ (.slice Ao43 t318.length co43 : Value).ownBlock) ∧ some k_ ≠ (.slice Ao176 t322.length co176 : Value).ownBlock)) (n := t333.length) (c := co182) ?_).2.2; exact (by (with_reducible repeat (first | apply Kd.R_alloc | apply Kd.R_drewN | apply Kd.R_drew)); exact (Kd.R_mono (Kd.R_mono (Kd.R_far (p := ⟨gb347, 1, none⟩) (Kd.R_far (p := ⟨gb347, 0, none⟩) (Kd.R_far (p := ⟨gb346, 4, none⟩) (Kd.R_far (p := ⟨gb346, 3, none⟩) (Kd.R_far (p := ⟨gb346, 2, none⟩) (Kd.R_far (p := ⟨gb346, 1, none⟩) (Kd.R_far (p := ⟨gb346, 0, none⟩) (Kd.R_types (Kd.R_types HO335.out BK346.out (by decide)) BK347.out (by decide)) (fun _ hk => hk.1.2) (.slice Ao182 t333.length co182)) (fun _ hk => hk.1.2) (.slice Ao191 t336.length co191)) (fun _ hk => hk.1.2) (.slice Ao192 t339.length co192)) (fun _ hk => hk.1.2) (.int .i64 t342)) (fun _ hk => hk.1.2) (.int .i64 t343)) (fun _ hk => hk.2) (.int .i64 t344)) (fun _ hk => hk.2) (.int .i64 t345)) (fun _ h_ => h_.1)) (fun _ h_ => h_.1)))); (case side2 => exact (Kd.R_reads' HO335.out).2.1); (case side3 => refine (Kd.R_reads' (e := 3) (base := w.heap.size) (ok := fun k_ => ((((((((some k_ ≠ (.slice Ao192 t339.length co192 : Value).ownBlock ∧ some k_ ≠ (.slice Ao26 t258.length co26 : Value).ownBlock) ∧ some k_ ≠ (.slice Ao27 t261.length co27 : Value).ownBlock) ∧ some k_ ≠ (.slice Ao38 t313.length co38 : Value).ownBlock) ∧ some k_ ≠ (.slice Ao39 t314.length co39 : Value).ownBlock) ∧ some k_ ≠ (.slice Ao50 t319.length co50 : Value).ownBlock) ∧ some k_ ≠ (.slice Ao51 t320.length co51 : Value).ownBlock) ∧ some k_ ≠ (.slice Ao177 t325.length co177 : Value).ownBlock) ∧ some k_ ≠ (.slice Ao178 t328.length co178 : Value).ownBlock)) (n := t336.length) (c := co191) ?_).2.2; exact (by (with_reducible repeat (first | apply Kd.R_alloc | apply Kd.R_drewN | apply Kd.R_drew)); exact (Kd.R_mono (Kd.R_mono (Kd.R_far (p := ⟨gb347, 1, none⟩) (Kd.R_far (p := ⟨gb347, 0, none⟩) (Kd.R_far (p := ⟨gb346, 4, none⟩) (Kd.R_far (p := ⟨gb346, 3, none⟩) (Kd.R_far (p := ⟨gb346, 2, none⟩) (Kd.R_far (p := ⟨gb346, 1, none⟩) (Kd.R_far (p := ⟨gb346, 0, none⟩) (Kd.R_types (Kd.R_types HO338.out BK346.out (by decide)) BK347.out (by decide)) (fun _ hk => hk.1.2) (.slice Ao182 t333.length co182)) (fun _ hk => hk.1.2) (.slice Ao191 t336.length co191)) (fun _ hk => hk.1.2) (.slice Ao192 t339.length co192)) (fun _ hk => hk.1.2) (.int .i64 t342)) (fun _ hk => hk.1.2) (.int .i64 t343)) (fun _ hk => hk.2) (.int .i64 t344)) (fun _ hk => hk.2) (.int .i64 t345)) (fun _ h_ => h_.1)) (fun _ h_ => h_.1)))); (case side4 => exact (Kd.R_reads' HO338.out).2.1); (case side5 => refine (Kd.R_reads' (e := 3) (base := w.heap.size) (ok := fun k_ => ((((((((some k_ ≠ (.slice Ao191 t336.length co191 : Value).ownBlock ∧ some k_ ≠ (.slice Ao26 t258.length co26 : Value).ownBlock) ∧ some k_ ≠ (.slice Ao27 t261.length co27 : Value).ownBlock) ∧ some k_ ≠ (.slice Ao38 t313.length co38 : Value).ownBlock) ∧ some k_ ≠ (.slice Ao39 t314.length co39 : Value).ownBlock) ∧ some k_ ≠ (.slice Ao50 t319.length co50 : Value).ownBlock) ∧ some k_ ≠ (.slice Ao51 t320.length co51 : Value).ownBlock) ∧ some k_ ≠ (.slice Ao177 t325.length co177 : Value).ownBlock) ∧ some k_ ≠ (.slice Ao178 t328.length co178 : Value).ownBlock)) (n := t339.length) (c := co192) ?_).2.2; exact (by (with_reducible repeat (first | apply Kd.R_alloc | apply Kd.R_drewN | apply Kd.R_drew)); exact (Kd.R_mono (Kd.R_mono (Kd.R_far (p := ⟨gb347, 1, none⟩) (Kd.R_far (p := ⟨gb347, 0, none⟩) (Kd.R_far (p := ⟨gb346, 4, none⟩) (Kd.R_far (p := ⟨gb346, 3, none⟩) (Kd.R_far (p := ⟨gb346, 2, none⟩) (Kd.R_far (p := ⟨gb346, 1, none⟩) (Kd.R_far (p := ⟨gb346, 0, none⟩) (Kd.R_types (Kd.R_types HO341.out BK346.out (by decide)) BK347.out (by decide)) (fun _ hk => hk.1.2) (.slice Ao182 t333.length co182)) (fun _ hk => hk.1.2) (.slice Ao191 t336.length co191)) (fun _ hk => hk.1.2) (.slice Ao192 t339.length co192)) (fun _ hk => hk.1.2) (.int .i64 t342)) (fun _ hk => hk.1.2) (.int .i64 t343)) (fun _ hk => hk.2) (.int .i64 t344)) (fun _ hk => hk.2) (.int .i64 t345)) (fun _ h_ => h_.1)) (fun _ h_ => h_.1)))); (case side6 => exact (Kd.R_reads' HO341.out).2.1); (case side7 => refine (Kd.R_reads' (e := 96) (base := w.heap.size) (ok := fun k_ => (((some k_ ≠ (.slice Ao33 t312.length co33 : Value).ownBlock ∧ some k_ ≠ (.slice Ao43 t318.length co43 : Value).ownBlock) ∧ some k_ ≠ (.slice Ao176 t322.length co176 : Value).ownBlock) ∧ some k_ ≠ (.slice Ao182 t333.length co182 : Value).ownBlock)) (n := t255.length) (c := co22) ?_).2.2; exact (by (with_reducible repeat (first | apply Kd.R_alloc | apply Kd.R_drewN | apply Kd.R_drew)); exact (Kd.R_mono (Kd.R_mono (Kd.R_far (p := ⟨gb347, 1, none⟩) (Kd.R_far (p := ⟨gb347, 0, none⟩) (Kd.R_far (p := ⟨gb346, 4, none⟩) (Kd.R_far (p := ⟨gb346, 3, none⟩) (Kd.R_far (p := ⟨gb346, 2, none⟩) (Kd.R_far (p := ⟨gb346, 1, none⟩) (Kd.R_far (p := ⟨gb346, 0, none⟩) (Kd.R_types (Kd.R_types HO_269000.out BK346.out (by decide)) BK347.out (by decide)) (fun _ hk => hk.1.2) (.slice Ao182 t333.length co182)) (fun _ hk => hk.1.2) (.slice Ao191 t336.length co191)) (fun _ hk => hk.1.2) (.slice Ao192 t339.length co192)) (fun _ hk => hk.1.2) (.int .i64 t342)) (fun _ hk => hk.1.2) (.int .i64 t343)) (fun _ hk => hk.2) (.int .i64 t344)) (fun _ hk => hk.2) (.int .i64 t345)) (fun _ h_ => h_.1)) (fun _ h_ => h_.1)))); (case side8 => exact (Kd.R_reads' HO_269000.out).2.1); (case side9 => refine (Kd.R_reads' (e := 3) (base := w.heap.size) (ok := fun k_ => (((((some k_ ≠ (.slice Ao27 t261.length co27 : Value).ownBlock ∧ (some k_ ≠ (.slice Ao38 t313.length co38 : Value).ownBlock ∧ (some k_ ≠ (.slice Ao39 t314.length co39 : Value).ownBlock ∧ (some k_ ≠ (.slice Ao50 t319.length co50 : Value).ownBlock ∧ some k_ ≠ (.slice Ao51 t320.length co51 : Value).ownBlock)))) ∧ some k_ ≠ (.slice Ao177 t325.length co177 : Value).ownBlock) ∧ some k_ ≠ (.slice Ao178 t328.length co178 : Value).ownBlock) ∧ some k_ ≠ (.slice Ao191 t336.length co191 : Value).ownBlock) ∧ some k_ ≠ (.slice Ao192 t339.length co192 : Value).ownBlock)) (n := t258.length) (c := co26) ?_).2.2; exact (by (with_reducible repeat (first | apply Kd.R_alloc | apply Kd.R_drewN | apply Kd.R_drew)); exact (Kd.R_mono (Kd.R_mono (Kd.R_far (p := ⟨gb347, 1, none⟩) (Kd.R_far (p := ⟨gb347, 0, none⟩) (Kd.R_far (p := ⟨gb346, 4, none⟩) (Kd.R_far (p := ⟨gb346, 3, none⟩) (Kd.R_far (p := ⟨gb346, 2, none⟩) (Kd.R_far (p := ⟨gb346, 1, none⟩) (Kd.R_far (p := ⟨gb346, 0, none⟩) (Kd.R_types (Kd.R_types HO_269001.out BK346.out (by decide)) BK347.out (by decide)) (fun _ hk => hk.1.2) (.slice Ao182 t333.length co182)) (fun _ hk => hk.1.2) (.slice Ao191 t336.length co191)) (fun _ hk => hk.1.2) (.slice Ao192 t339.length co192)) (fun _ hk => hk.1.2) (.int .i64 t342)) (fun _ hk => hk.1.2) (.int .i64 t343)) (fun _ hk => hk.2) (.int .i64 t344)) (fun _ hk => hk.2) (.int .i64 t345)) (fun _ h_ => h_.1)) (fun _ h_ => h_.1)))); (case side10 => exact (Kd.R_reads' HO_269001.out).2.1); (case side11 => refine (Kd.R_reads' (e := 3) (base := w.heap.size) (ok := fun k_ => (((((some k_ ≠ (.slice Ao26 t258.length co26 : Value).ownBlock ∧ (some k_ ≠ (.slice Ao38 t313.length co38 : Value).ownBlock ∧ (some k_ ≠ (.slice Ao39 t314.length co39 : Value).ownBlock ∧ (some k_ ≠ (.slice Ao50 t319.length co50 : Value).ownBlock ∧ some k_ ≠ (.slice Ao51 t320.length co51 : Value).ownBlock)))) ∧ some k_ ≠ (.slice Ao177 t325.length co177 : Value).ownBlock) ∧ some k_ ≠ (.slice Ao178 t328.length co178 : Value).ownBlock) ∧ some k_ ≠ (.slice Ao191 t336.length co191 : Value).ownBlock) ∧ some k_ ≠ (.slice Ao192 t339.length co192 : Value).ownBlock)) (n := t261.length) (c := co27) ?_).2.2; exact (by (with_reducible repeat (first | apply Kd.R_alloc | apply Kd.R_drewN | apply Kd.R_drew)); exact (Kd.R_mono (Kd.R_mono (Kd.R_far (p := ⟨gb347, 1, none⟩) (Kd.R_far (p := ⟨gb347, 0, none⟩) (Kd.R_far (p := ⟨gb346, 4, none⟩) (Kd.R_far (p := ⟨gb346, 3, none⟩) (Kd.R_far (p := ⟨gb346, 2, none⟩) (Kd.R_far (p := ⟨gb346, 1, none⟩) (Kd.R_far (p := ⟨gb346, 0, none⟩) (Kd.R_types (Kd.R_types HO_269002.out BK346.out (by decide)) BK347.out (by decide)) (fun _ hk => hk.1.2) (.slice Ao182 t333.length co182)) (fun _ hk => hk.1.2) (.slice Ao191 t336.length co191)) (fun _ hk => hk.1.2) (.slice Ao192 t339.length co192)) (fun _ hk => hk.1.2) (.int .i64 t342)) (fun _ hk => hk.1.2) (.int .i64 t343)) (fun _ hk => hk.2) (.int .i64 t344)) (fun _ hk => hk.2) (.int .i64 t345)) (fun _ h_ => h_.1)) (fun _ h_ => h_.1)))); (case side12 => exact (Kd.R_reads' HO_269002.out).2.1); rintro e w218 ⟨rfl, hb⟩; refine ⟨_, rfl, ?_⟩; have n0_ := Aside0.mk (Kd.R_below (by (with_reducible repeat (first | apply Kd.R_alloc | apply Kd.R_drewN | apply Kd.R_drew)); exact (Kd.R_mono (Kd.R_mono (Kd.R_far (p := ⟨gb347, 1, none⟩) (Kd.R_far (p := ⟨gb347, 0, none⟩) (Kd.R_far (p := ⟨gb346, 4, none⟩) (Kd.R_far (p := ⟨gb346, 3, none⟩) (Kd.R_far (p := ⟨gb346, 2, none⟩) (Kd.R_far (p := ⟨gb346, 1, none⟩) (Kd.R_far (p := ⟨gb346, 0, none⟩) (Kd.R_types (Kd.R_types HO_269000.out BK346.out (by decide)) BK347.out (by decide)) (fun _ hk => hk.1.2) (.slice Ao182 t333.length co182)) (fun _ hk => hk.1.2) (.slice Ao191 t336.length co191)) (fun _ hk => hk.1.2) (.slice Ao192 t339.length co192)) (fun _ hk => hk.1.2) (.int .i64 t342)) (fun _ hk => hk.1.2) (.int .i64 t343)) (fun _ hk => hk.2) (.int .i64 t344)) (fun _ hk => hk.2) (.int .i64 t345)) (fun _ h_ => h_.1)) (fun _ h_ => h_.1))) hb); have n1_ := Aside0.mk (Kd.R_below (by (with_reducible repeat (first | apply Kd.R_alloc | apply Kd.R_drewN | apply Kd.R_drew)); exact (Kd.R_mono (Kd.R_mono (Kd.R_far (p := ⟨gb347, 1, none⟩) (Kd.R_far (p := ⟨gb347, 0, none⟩) (Kd.R_far (p := ⟨gb346, 4, none⟩) (Kd.R_far (p := ⟨gb346, 3, none⟩) (Kd.R_far (p := ⟨gb346, 2, none⟩) (Kd.R_far (p := ⟨gb346, 1, none⟩) (Kd.R_far (p := ⟨gb346, 0, none⟩) (Kd.R_types (Kd.R_types HO_269001.out BK346.out (by decide)) BK347.out (by decide)) (fun _ hk => hk.1.2) (.slice Ao182 t333.length co182)) (fun _ hk => hk.1.2) (.slice Ao191 t336.length co191)) (fun _ hk => hk.1.2) (.slice Ao192 t339.length co192)) (fun _ hk => hk.1.2) (.int .i64 t342)) (fun _ hk => hk.1.2) (.int .i64 t343)) (fun _ hk => hk.2) (.int .i64 t344)) (fun _ hk => hk.2) (.int .i64 t345)) (fun _ h_ => h_.1)) (fun _ h_ => h_.1))) hb); have n2_ := Aside0.mk (Kd.R_below (by (with_reducible repeat (first | apply Kd.R_alloc | apply Kd.R_drewN | apply Kd.R_drew)); exact (Kd.R_mono (Kd.R_mono (Kd.R_far (p := ⟨gb347, 1, none⟩) (Kd.R_far (p := ⟨gb347, 0, none⟩) (Kd.R_far (p := ⟨gb346, 4, none⟩) (Kd.R_far (p := ⟨gb346, 3, none⟩) (Kd.R_far (p := ⟨gb346, 2, none⟩) (Kd.R_far (p := ⟨gb346, 1, none⟩) (Kd.R_far (p := ⟨gb346, 0, none⟩) (Kd.R_types (Kd.R_types HO_269002.out BK346.out (by decide)) BK347.out (by decide)) (fun _ hk => hk.1.2) (.slice Ao182 t333.length co182)) (fun _ hk => hk.1.2) (.slice Ao191 t336.length co191)) (fun _ hk => hk.1.2) (.slice Ao192 t339.length co192)) (fun _ hk => hk.1.2) (.int .i64 t342)) (fun _ hk => hk.1.2) (.int .i64 t343)) (fun _ hk => hk.2) (.int .i64 t344)) (fun _ hk => hk.2) (.int .i64 t345)) (fun _ h_ => h_.1)) (fun _ h_ => h_.1))) hb); have n3_ := Aside0.mk (Kd.R_below (by (with_reducible repeat (first | apply Kd.R_alloc | apply Kd.R_drewN | apply Kd.R_drew)); exact (Kd.R_mono (Kd.R_mono (Kd.R_far (p := ⟨gb347, 1, none⟩) (Kd.R_far (p := ⟨gb347, 0, none⟩) (Kd.R_far (p := ⟨gb346, 4, none⟩) (Kd.R_far (p := ⟨gb346, 3, none⟩) (Kd.R_far (p := ⟨gb346, 2, none⟩) (Kd.R_far (p := ⟨gb346, 1, none⟩) (Kd.R_far (p := ⟨gb346, 0, none⟩) (Kd.R_types (Kd.R_types HO_282000.out BK346.out (by decide)) BK347.out (by decide)) (fun _ hk => hk.1.2) (.slice Ao182 t333.length co182)) (fun _ hk => hk.1.2) (.slice Ao191 t336.length co191)) (fun _ hk => hk.1.2) (.slice Ao192 t339.length co192)) (fun _ hk => hk.1.2) (.int .i64 t342)) (fun _ hk => hk.1.2) (.int .i64 t343)) (fun _ hk => hk.2) (.int .i64 t344)) (fun _ hk => hk.2) (.int .i64 t345)) (fun _ h_ => h_.1)) (fun _ h_ => h_.1))) hb); have n4_ := Aside0.mk (Kd.R_below (by (with_reducible repeat (first | apply Kd.R_alloc | apply Kd.R_drewN | apply Kd.R_drew)); exact (Kd.R_mono (Kd.R_mono (Kd.R_far (p := ⟨gb347, 1, none⟩) (Kd.R_far (p := ⟨gb347, 0, none⟩) (Kd.R_far (p := ⟨gb346, 4, none⟩) (Kd.R_far (p := ⟨gb346, 3, none⟩) (Kd.R_far (p := ⟨gb346, 2, none⟩) (Kd.R_far (p := ⟨gb346, 1, none⟩) (Kd.R_far (p := ⟨gb346, 0, none⟩) (Kd.R_types (Kd.R_types HO_282001.out BK346.out (by decide)) BK347.out (by decide)) (fun _ hk => hk.1.2) (.slice Ao182 t333.length co182)) (fun _ hk => hk.1.2) (.slice Ao191 t336.length co191)) (fun _ hk => hk.1.2) (.slice Ao192 t339.length co192)) (fun _ hk => hk.1.2) (.int .i64 t342)) (fun _ hk => hk.1.2) (.int .i64 t343)) (fun _ hk => hk.2) (.int .i64 t344)) (fun _ hk => hk.2) (.int .i64 t345)) (fun _ h_ => h_.1)) (fun _ h_ => h_.1))) hb); have n5_ := Aside0.mk (Kd.R_below (by (with_reducible repeat (first | apply Kd.R_alloc | apply Kd.R_drewN | apply Kd.R_drew)); exact (Kd.R_mono (Kd.R_mono (Kd.R_far (p := ⟨gb347, 1, none⟩) (Kd.R_far (p := ⟨gb347, 0, none⟩) (Kd.R_far (p := ⟨gb346, 4, none⟩) (Kd.R_far (p := ⟨gb346, 3, none⟩) (Kd.R_far (p := ⟨gb346, 2, none⟩) (Kd.R_far (p := ⟨gb346, 1, none⟩) (Kd.R_far (p := ⟨gb346, 0, none⟩) (Kd.R_types (Kd.R_types HO_282002.out BK346.out (by decide)) BK347.out (by decide)) (fun _ hk => hk.1.2) (.slice Ao182 t333.length co182)) (fun _ hk => hk.1.2) (.slice Ao191 t336.length co191)) (fun _ hk => hk.1.2) (.slice Ao192 t339.length co192)) (fun _ hk => hk.1.2) (.int .i64 t342)) (fun _ hk => hk.1.2) (.int .i64 t343)) (fun _ hk => hk.2) (.int .i64 t344)) (fun _ hk => hk.2) (.int .i64 t345)) (fun _ h_ => h_.1)) (fun _ h_ => h_.1))) hb); have n6_ := Aside0.mk (Kd.R_below (by (with_reducible repeat (first | apply Kd.R_alloc | apply Kd.R_drewN | apply Kd.R_drew)); exact (Kd.R_mono (Kd.R_mono (Kd.R_far (p := ⟨gb347, 1, none⟩) (Kd.R_far (p := ⟨gb347, 0, none⟩) (Kd.R_far (p := ⟨gb346, 4, none⟩) (Kd.R_far (p := ⟨gb346, 3, none⟩) (Kd.R_far (p := ⟨gb346, 2, none⟩) (Kd.R_far (p := ⟨gb346, 1, none⟩) (Kd.R_far (p := ⟨gb346, 0, none⟩) (Kd.R_types (Kd.R_types HO_296000.out BK346.out (by decide)) BK347.out (by decide)) (fun _ hk => hk.1.2) (.slice Ao182 t333.length co182)) (fun _ hk => hk.1.2) (.slice Ao191 t336.length co191)) (fun _ hk => hk.1.2) (.slice Ao192 t339.length co192)) (fun _ hk => hk.1.2) (.int .i64 t342)) (fun _ hk => hk.1.2) (.int .i64 t343)) (fun _ hk => hk.2) (.int .i64 t344)) (fun _ hk => hk.2) (.int .i64 t345)) (fun _ h_ => h_.1)) (fun _ h_ => h_.1))) hb); have n7_ := Aside0.mk (Kd.R_below (by (with_reducible repeat (first | apply Kd.R_alloc | apply Kd.R_drewN | apply Kd.R_drew)); exact (Kd.R_mono (Kd.R_mono (Kd.R_far (p := ⟨gb347, 1, none⟩) (Kd.R_far (p := ⟨gb347, 0, none⟩) (Kd.R_far (p := ⟨gb346, 4, none⟩) (Kd.R_far (p := ⟨gb346, 3, none⟩) (Kd.R_far (p := ⟨gb346, 2, none⟩) (Kd.R_far (p := ⟨gb346, 1, none⟩) (Kd.R_far (p := ⟨gb346, 0, none⟩) (Kd.R_types (Kd.R_types HO_296001.out BK346.out (by decide)) BK347.out (by decide)) (fun _ hk => hk.1.2) (.slice Ao182 t333.length co182)) (fun _ hk => hk.1.2) (.slice Ao191 t336.length co191)) (fun _ hk => hk.1.2) (.slice Ao192 t339.length co192)) (fun _ hk => hk.1.2) (.int .i64 t342)) (fun _ hk => hk.1.2) (.int .i64 t343)) (fun _ hk => hk.2) (.int .i64 t344)) (fun _ hk => hk.2) (.int .i64 t345)) (fun _ h_ => h_.1)) (fun _ h_ => h_.1))) hb); have n8_ := Aside0.mk (Kd.R_below (by (with_reducible repeat (first | apply Kd.R_alloc | apply Kd.R_drewN | apply Kd.R_drew)); exact (Kd.R_mono (Kd.R_mono (Kd.R_far (p := ⟨gb347, 1, none⟩) (Kd.R_far (p := ⟨gb347, 0, none⟩) (Kd.R_far (p := ⟨gb346, 4, none⟩) (Kd.R_far (p := ⟨gb346, 3, none⟩) (Kd.R_far (p := ⟨gb346, 2, none⟩) (Kd.R_far (p := ⟨gb346, 1, none⟩) (Kd.R_far (p := ⟨gb346, 0, none⟩) (Kd.R_types (Kd.R_types HO_296002.out BK346.out (by decide)) BK347.out (by decide)) (fun _ hk => hk.1.2) (.slice Ao182 t333.length co182)) (fun _ hk => hk.1.2) (.slice Ao191 t336.length co191)) (fun _ hk => hk.1.2) (.slice Ao192 t339.length co192)) (fun _ hk => hk.1.2) (.int .i64 t342)) (fun _ hk => hk.1.2) (.int .i64 t343)) (fun _ hk => hk.2) (.int .i64 t344)) (fun _ hk => hk.2) (.int .i64 t345)) (fun _ h_ => h_.1)) (fun _ h_ => h_.1))) hb); have n9_ := Aside0.mk (Kd.R_below (by (with_reducible repeat (first | apply Kd.R_alloc | apply Kd.R_drewN | apply Kd.R_drew)); exact (Kd.R_mono (Kd.R_mono (Kd.R_far (p := ⟨gb347, 1, none⟩) (Kd.R_far (p := ⟨gb347, 0, none⟩) (Kd.R_far (p := ⟨gb346, 4, none⟩) (Kd.R_far (p := ⟨gb346, 3, none⟩) (Kd.R_far (p := ⟨gb346, 2, none⟩) (Kd.R_far (p := ⟨gb346, 1, none⟩) (Kd.R_far (p := ⟨gb346, 0, none⟩) (Kd.R_types (Kd.R_types HO335.out BK346.out (by decide)) BK347.out (by decide)) (fun _ hk => hk.1.2) (.slice Ao182 t333.length co182)) (fun _ hk => hk.1.2) (.slice Ao191 t336.length co191)) (fun _ hk => hk.1.2) (.slice Ao192 t339.length co192)) (fun _ hk => hk.1.2) (.int .i64 t342)) (fun _ hk => hk.1.2) (.int .i64 t343)) (fun _ hk => hk.2) (.int .i64 t344)) (fun _ hk => hk.2) (.int .i64 t345)) (fun _ h_ => h_.1)) (fun _ h_ => h_.1))) hb); have n10_ := Aside0.mk (Kd.R_below (by (with_reducible repeat (first | apply Kd.R_alloc | apply Kd.R_drewN | apply Kd.R_drew)); exact (Kd.R_mono (Kd.R_mono (Kd.R_far (p := ⟨gb347, 1, none⟩) (Kd.R_far (p := ⟨gb347, 0, none⟩) (Kd.R_far (p := ⟨gb346, 4, none⟩) (Kd.R_far (p := ⟨gb346, 3, none⟩) (Kd.R_far (p := ⟨gb346, 2, none⟩) (Kd.R_far (p := ⟨gb346, 1, none⟩) (Kd.R_far (p := ⟨gb346, 0, none⟩) (Kd.R_types (Kd.R_types HO338.out BK346.out (by decide)) BK347.out (by decide)) (fun _ hk => hk.1.2) (.slice Ao182 t333.length co182)) (fun _ hk => hk.1.2) (.slice Ao191 t336.length co191)) (fun _ hk => hk.1.2) (.slice Ao192 t339.length co192)) (fun _ hk => hk.1.2) (.int .i64 t342)) (fun _ hk => hk.1.2) (.int .i64 t343)) (fun _ hk => hk.2) (.int .i64 t344)) (fun _ hk => hk.2) (.int .i64 t345)) (fun _ h_ => h_.1)) (fun _ h_ => h_.1))) hb); have n11_ := Aside0.mk (Kd.R_below (by (with_reducible repeat (first | apply Kd.R_alloc | apply Kd.R_drewN | apply Kd.R_drew)); exact (Kd.R_mono (Kd.R_mono (Kd.R_far (p := ⟨gb347, 1, none⟩) (Kd.R_far (p := ⟨gb347, 0, none⟩) (Kd.R_far (p := ⟨gb346, 4, none⟩) (Kd.R_far (p := ⟨gb346, 3, none⟩) (Kd.R_far (p := ⟨gb346, 2, none⟩) (Kd.R_far (p := ⟨gb346, 1, none⟩) (Kd.R_far (p := ⟨gb346, 0, none⟩) (Kd.R_types (Kd.R_types HO341.out BK346.out (by decide)) BK347.out (by decide)) (fun _ hk => hk.1.2) (.slice Ao182 t333.length co182)) (fun _ hk => hk.1.2) (.slice Ao191 t336.length co191)) (fun _ hk => hk.1.2) (.slice Ao192 t339.length co192)) (fun _ hk => hk.1.2) (.int .i64 t342)) (fun _ hk => hk.1.2) (.int .i64 t343)) (fun _ hk => hk.2) (.int .i64 t344)) (fun _ hk => hk.2) (.int .i64 t345)) (fun _ h_ => h_.1)) (fun _ h_ => h_.1))) hb); have n12_ := Aside0.mk (blk_below (g := gb242) (o := .cells #[.slice A0_0 l0_0.length c0_0, .slice A0_1 l0_1.length c0_1, .slice A0_2 l0_2.length c0_2, .int .i64 a0_3, .int .i64 a0_4] 25 (0, 0)) (by (with_reducible repeat (first | refine blk_drewN ?_ _ | refine blk_drew ?_ | refine blk_alloc ?_ _)); refine blk_far ?_ NB242_347.out _; (with_reducible repeat (first | refine blk_drewN ?_ _ | refine blk_drew ?_ | refine blk_alloc ?_ _)); refine blk_far ?_ NB242_347.out _; (with_reducible repeat (first | refine blk_drewN ?_ _ | refine blk_drew ?_ | refine blk_alloc ?_ _)); refine blk_far ?_ NB242_346.out _; (with_reducible repeat (first | refine blk_drewN ?_ _ | refine blk_drew ?_ | refine blk_alloc ?_ _)); refine blk_far ?_ NB242_346.out _; (with_reducible repeat (first | refine blk_drewN ?_ _ | refine blk_drew ?_ | refine blk_alloc ?_ _)); refine blk_far ?_ NB242_346.out _; (with_reducible repeat (first | refine blk_drewN ?_ _ | refine blk_drew ?_ | refine blk_alloc ?_ _)); refine blk_far ?_ NB242_346.out _; (with_reducible repeat (first | refine blk_drewN ?_ _ | refine blk_drew ?_ | refine blk_alloc ?_ _)); refine blk_far ?_ NB242_346.out _; (with_reducible repeat (first | refine blk_drewN ?_ _ | refine blk_drew ?_ | refine blk_alloc ?_ _)); exact BK242.out) hb); have n13_ := Aside0.mk (blk_below (g := gb268) (o := .cells #[.slice Ao22 t255.length co22, .slice Ao26 t258.length co26, .slice Ao27 t261.length co27, .int .i64 t264, .int .i64 t265] 29 (0, 0)) (by (with_reducible repeat (first | refine blk_drewN ?_ _ | refine blk_drew ?_ | refine blk_alloc ?_ _)); refine blk_far ?_ NB268_347.out _; (with_reducible repeat (first | refine blk_drewN ?_ _ | refine blk_drew ?_ | refine blk_alloc ?_ _)); refine blk_far ?_ NB268_347.out _; (with_reducible repeat (first | refine blk_drewN ?_ _ | refine blk_drew ?_ | refine blk_alloc ?_ _)); refine blk_far ?_ NB268_346.out _; (with_reducible repeat (first | refine blk_drewN ?_ _ | refine blk_drew ?_ | refine blk_alloc ?_ _)); refine blk_far ?_ NB268_346.out _; (with_reducible repeat (first | refine blk_drewN ?_ _ | refine blk_drew ?_ | refine blk_alloc ?_ _)); refine blk_far ?_ NB268_346.out _; (with_reducible repeat (first | refine blk_drewN ?_ _ | refine blk_drew ?_ | refine blk_alloc ?_ _)); refine blk_far ?_ NB268_346.out _; (with_reducible repeat (first | refine blk_drewN ?_ _ | refine blk_drew ?_ | refine blk_alloc ?_ _)); refine blk_far ?_ NB268_346.out _; (with_reducible repeat (first | refine blk_drewN ?_ _ | refine blk_drew ?_ | refine blk_alloc ?_ _)); exact BK268.out) hb); have n14_ := Aside0.mk (blk_below (g := gb269) (o := .cells #[.int .i64 t266, .int .i64 t267] 37 (0, 0)) (by (with_reducible repeat (first | refine blk_drewN ?_ _ | refine blk_drew ?_ | refine blk_alloc ?_ _)); refine blk_far ?_ NB269_347.out _; (with_reducible repeat (first | refine blk_drewN ?_ _ | refine blk_drew ?_ | refine blk_alloc ?_ _)); refine blk_far ?_ NB269_347.out _; (with_reducible repeat (first | refine blk_drewN ?_ _ | refine blk_drew ?_ | refine blk_alloc ?_ _)); refine blk_far ?_ NB269_346.out _; (with_reducible repeat (first | refine blk_drewN ?_ _ | refine blk_drew ?_ | refine blk_alloc ?_ _)); refine blk_far ?_ NB269_346.out _; (with_reducible repeat (first | refine blk_drewN ?_ _ | refine blk_drew ?_ | refine blk_alloc ?_ _)); refine blk_far ?_ NB269_346.out _; (with_reducible repeat (first | refine blk_drewN ?_ _ | refine blk_drew ?_ | refine blk_alloc ?_ _)); refine blk_far ?_ NB269_346.out _; (with_reducible repeat (first | refine blk_drewN ?_ _ | refine blk_drew ?_ | refine blk_alloc ?_ _)); refine blk_far ?_ NB269_346.out _; (with_reducible repeat (first | refine blk_drewN ?_ _ | refine blk_drew ?_ | refine blk_alloc ?_ _)); exact BK269.out) hb); have n15_ := Aside0.mk (blk_below (g := gb281) (o := .cells #[.slice Ao33 t312.length co33, .slice Ao38 t313.length co38, .slice Ao39 t314.length co39, .int .i64 t279, .int .i64 t280] 29 (0, 0)) (by (with_reducible repeat (first | refine blk_drewN ?_ _ | refine blk_drew ?_ | refine blk_alloc ?_ _)); refine blk_far ?_ NB281_347.out _; (with_reducible repeat (first | refine blk_drewN ?_ _ | refine blk_drew ?_ | refine blk_alloc ?_ _)); refine blk_far ?_ NB281_347.out _; (with_reducible repeat (first | refine blk_drewN ?_ _ | refine blk_drew ?_ | refine blk_alloc ?_ _)); refine blk_far ?_ NB281_346.out _; (with_reducible repeat (first | refine blk_drewN ?_ _ | refine blk_drew ?_ | refine blk_alloc ?_ _)); refine blk_far ?_ NB281_346.out _; (with_reducible repeat (first | refine blk_drewN ?_ _ | refine blk_drew ?_ | refine blk_alloc ?_ _)); refine blk_far ?_ NB281_346.out _; (with_reducible repeat (first | refine blk_drewN ?_ _ | refine blk_drew ?_ | refine blk_alloc ?_ _)); refine blk_far ?_ NB281_346.out _; (with_reducible repeat (first | refine blk_drewN ?_ _ | refine blk_drew ?_ | refine blk_alloc ?_ _)); refine blk_far ?_ NB281_346.out _; (with_reducible repeat (first | refine blk_drewN ?_ _ | refine blk_drew ?_ | refine blk_alloc ?_ _)); exact BK281.out) hb); have n16_ := Aside0.mk (blk_below (g := gb295) (o := .cells #[.slice Ao43 t318.length co43, .slice Ao50 t319.length co50, .slice Ao51 t320.length co51, .int .i64 t291, .int .i64 t292] 29 (0, 0)) (by (with_reducible repeat (first | refine blk_drewN ?_ _ | refine blk_drew ?_ | refine blk_alloc ?_ _)); refine blk_far ?_ NB295_347.out _; (with_reducible repeat (first | refine blk_drewN ?_ _ | refine blk_drew ?_ | refine blk_alloc ?_ _)); refine blk_far ?_ NB295_347.out _; (with_reducible repeat (first | refine blk_drewN ?_ _ | refine blk_drew ?_ | refine blk_alloc ?_ _)); refine blk_far ?_ NB295_346.out _; (with_reducible repeat (first | refine blk_drewN ?_ _ | refine blk_drew ?_ | refine blk_alloc ?_ _)); refine blk_far ?_ NB295_346.out _; (with_reducible repeat (first | refine blk_drewN ?_ _ | refine blk_drew ?_ | refine blk_alloc ?_ _)); refine blk_far ?_ NB295_346.out _; (with_reducible repeat (first | refine blk_drewN ?_ _ | refine blk_drew ?_ | refine blk_alloc ?_ _)); refine blk_far ?_ NB295_346.out _; (with_reducible repeat (first | refine blk_drewN ?_ _ | refine blk_drew ?_ | refine blk_alloc ?_ _)); refine blk_far ?_ NB295_346.out _; (with_reducible repeat (first | refine blk_drewN ?_ _ | refine blk_drew ?_ | refine blk_alloc ?_ _)); exact BK295.out) hb); have n17_ := Aside0.mk (blk_below (g := gb296) (o := .cells #[.int .i64 t293, .int .i64 t294] 37 (0, 0)) (by (with_reducible repeat (first | refine blk_drewN ?_ _ | refine blk_drew ?_ | refine blk_alloc ?_ _)); refine blk_far ?_ NB296_347.out _; (with_reducible repeat (first | refine blk_drewN ?_ _ | refine blk_drew ?_ | refine blk_alloc ?_ _)); refine blk_far ?_ NB296_347.out _; (with_reducible repeat (first | refine blk_drewN ?_ _ | refine blk_drew ?_ | refine blk_alloc ?_ _)); refine blk_far ?_ NB296_346.out _; (with_reducible repeat (first | refine blk_drewN ?_ _ | refine blk_drew ?_ | refine blk_alloc ?_ _)); refine blk_far ?_ NB296_346.out _; (with_reducible repeat (first | refine blk_drewN ?_ _ | refine blk_drew ?_ | refine blk_alloc ?_ _)); refine blk_far ?_ NB296_346.out _; (with_reducible repeat (first | refine blk_drewN ?_ _ | refine blk_drew ?_ | refine blk_alloc ?_ _)); refine blk_far ?_ NB296_346.out _; (with_reducible repeat (first | refine blk_drewN ?_ _ | refine blk_drew ?_ | refine blk_alloc ?_ _)); refine blk_far ?_ NB296_346.out _; (with_reducible repeat (first | refine blk_drewN ?_ _ | refine blk_drew ?_ | refine blk_alloc ?_ _)); exact BK296.out) hb); have n18_ := Aside0.mk (blk_below (g := gb346) (o := .cells #[.slice Ao182 t333.length co182, .slice Ao191 t336.length co191, .slice Ao192 t339.length co192, .int .i64 t342, .int .i64 t343] 29 (0, 0)) (by (with_reducible repeat (first | refine blk_drewN ?_ _ | refine blk_drew ?_ | refine blk_alloc ?_ _)); refine blk_far ?_ NB346_347.out _; (with_reducible repeat (first | refine blk_drewN ?_ _ | refine blk_drew ?_ | refine blk_alloc ?_ _)); refine blk_far ?_ NB346_347.out _; (with_reducible repeat (first | refine blk_drewN ?_ _ | refine blk_drew ?_ | refine blk_alloc ?_ _)); refine blk_put (cs := #[.slice Ao182 t333.length co182, .slice Ao191 t336.length co191, .slice Ao192 t339.length co192, .int .i64 t342, .int .i64 0]) ?_ 4 _ rfl; (with_reducible repeat (first | refine blk_drewN ?_ _ | refine blk_drew ?_ | refine blk_alloc ?_ _)); refine blk_put (cs := #[.slice Ao182 t333.length co182, .slice Ao191 t336.length co191, .slice Ao192 t339.length co192, .int .i64 0, .int .i64 0]) ?_ 3 _ rfl; (with_reducible repeat (first | refine blk_drewN ?_ _ | refine blk_drew ?_ | refine blk_alloc ?_ _)); refine blk_put (cs := #[.slice Ao182 t333.length co182, .slice Ao191 t336.length co191, .slice none 0 0, .int .i64 0, .int .i64 0]) ?_ 2 _ rfl; (with_reducible repeat (first | refine blk_drewN ?_ _ | refine blk_drew ?_ | refine blk_alloc ?_ _)); refine blk_put (cs := #[.slice Ao182 t333.length co182, .slice none 0 0, .slice none 0 0, .int .i64 0, .int .i64 0]) ?_ 1 _ rfl; (with_reducible repeat (first | refine blk_drewN ?_ _ | refine blk_drew ?_ | refine blk_alloc ?_ _)); refine blk_put (cs := #[.slice none 0 0, .slice none 0 0, .slice none 0 0, .int .i64 0, .int .i64 0]) ?_ 0 _ rfl; (with_reducible repeat (first | refine blk_drewN ?_ _ | refine blk_drew ?_ | refine blk_alloc ?_ _)); exact BK346.out) hb); have n19_ := Aside0.mk (blk_below (g := gb347) (o := .cells #[.int .i64 t344, .int .i64 t345] 37 (0, 0)) (by (with_reducible repeat (first | refine blk_drewN ?_ _ | refine blk_drew ?_ | refine blk_alloc ?_ _)); refine blk_put (cs := #[.int .i64 t344, .int .i64 0]) ?_ 1 _ rfl; (with_reducible repeat (first | refine blk_drewN ?_ _ | refine blk_drew ?_ | refine blk_alloc ?_ _)); refine blk_put (cs := #[.int .i64 0, .int .i64 0]) ?_ 0 _ rfl; (with_reducible repeat (first | refine blk_drewN ?_ _ | refine blk_drew ?_ | refine blk_alloc ?_ _)); refine blk_far ?_ NB347_346.out _; (with_reducible repeat (first | refine blk_drewN ?_ _ | refine blk_drew ?_ | refine blk_alloc ?_ _)); refine blk_far ?_ NB347_346.out _; (with_reducible repeat (first | refine blk_drewN ?_ _ | refine blk_drew ?_ | refine blk_alloc ?_ _)); refine blk_far ?_ NB347_346.out _; (with_reducible repeat (first | refine blk_drewN ?_ _ | refine blk_drew ?_ | refine blk_alloc ?_ _)); refine blk_far ?_ NB347_346.out _; (with_reducible repeat (first | refine blk_drewN ?_ _ | refine blk_drew ?_ | refine blk_alloc ?_ _)); refine blk_far ?_ NB347_346.out _; (with_reducible repeat (first | refine blk_drewN ?_ _ | refine blk_drew ?_ | refine blk_alloc ?_ _)); exact BK347.out) hb); have n20_ := Aside0.mk (below_step (by repeat (first | (with_reducible first | exact HB.out | apply below_alloc | apply pw_below_drewN | apply below_drew1 | refine below_set ?_ GE242.out | refine below_set ?_ GE268.out | refine below_set ?_ GE269.out | refine below_set ?_ GE281.out | refine below_set ?_ GE295.out | refine below_set ?_ GE296.out | refine below_set ?_ GE346.out | refine below_set ?_ GE347.out) | exact HB.out)) hb); clear HO_269000; clear HO_269001; clear HO_269002; clear HO_282000; clear HO_282001; clear HO_282002; clear HO_296000; clear HO_296001; clear HO_296002; clear HO335; clear HO338; clear HO341; clear BK242; clear BK268; clear BK269; clear BK281; clear BK295; clear BK296; clear BK346; clear BK347; clear HB; have HO_269000 := n0_; have HO_269001 := n1_; have HO_269002 := n2_; have HO_282000 := n3_; have HO_282001 := n4_; have HO_282002 := n5_; have HO_296000 := n6_; have HO_296001 := n7_; have HO_296002 := n8_; have HO335 := n9_; have HO338 := n10_; have HO341 := n11_; have BK242 := n12_; have BK268 := n13_; have BK269 := n14_; have BK281 := n15_; have BK295 := n16_; have BK296 := n17_; have BK346 := n18_; have BK347 := n19_; have HB := n20_; clear n0_ n1_ n2_ n3_ n4_ n5_ n6_ n7_ n8_ n9_ n10_ n11_ n12_ n13_ n14_ n15_ n16_ n17_ n18_ n19_ n20_; (try clear hb); (try clear hb2); (try clear hk); (try clear hi); have hnb219 := NB347_242.out; have hnc219 := NB242_347.out; have hnb220 := NB347_269.out; have hnc220 := NB269_347.out; have hnb221 := NB347_281.out; have hnc221 := NB281_347.out; have hnb222 := NB347_295.out; have hnc222 := NB295_347.out; have hnb223 := NB347_296.out; have hnc223 := NB296_347.out; have hcz224_0 : w218.cell? ⟨gb347, 0, none⟩ = some (.int .i64 t344) := (blk_cell BK347.out 0).trans rfl; have hcz224_1 : w218.cell? ⟨gb347, 1, none⟩ = some (.int .i64 t345) := (blk_cell BK347.out 1).trans rfl; have hfz224_0 := blk_frozen BK347.out 0; have hfz224_1 := blk_frozen BK347.out 1; have hnb225 := NB269_242.out; have hnc225 := NB242_269.out; have hnb226 := NB269_281.out; have hnc226 := NB281_269.out; have hnb227 := NB269_295.out; have hnc227 := NB295_269.out; have hnb228 := NB269_296.out; have hnc228 := NB296_269.out; have hcz229_0 : w218.cell? ⟨gb269, 0, none⟩ = some (.int .i64 t266) := (blk_cell BK269.out 0).trans rfl; have hcz229_1 : w218.cell? ⟨gb269, 1, none⟩ = some (.int .i64 t267) := (blk_cell BK269.out 1).trans rfl; have hfz229_0 := blk_frozen BK269.out 0; have hfz229_1 := blk_frozen BK269.out 1) | (go_at_call 19; (with_reducible refine (laws_eqValue.calls t344 t345 t266 t267 t349 _ A202.out).mono ?_); rintro e w230 ⟨rfl, hb⟩; have n0_ := Aside0.mk (Kd.R_below (by (with_reducible repeat (first | apply Kd.R_alloc | apply Kd.R_drewN | apply Kd.R_drew)); exact HO_269000.out) hb); have n1_ := Aside0.mk (Kd.R_below (by (with_reducible repeat (first | apply Kd.R_alloc | apply Kd.R_drewN | apply Kd.R_drew)); exact HO_269001.out) hb); have n2_ := Aside0.mk (Kd.R_below (by (with_reducible repeat (first | apply Kd.R_alloc | apply Kd.R_drewN | apply Kd.R_drew)); exact HO_269002.out) hb); have n3_ := Aside0.mk (Kd.R_below (by (with_reducible repeat (first | apply Kd.R_alloc | apply Kd.R_drewN | apply Kd.R_drew)); exact HO_282000.out) hb); have n4_ := Aside0.mk (Kd.R_below (by (with_reducible repeat (first | apply Kd.R_alloc | apply Kd.R_drewN | apply Kd.R_drew)); exact HO_282001.out) hb); have n5_ := Aside0.mk (Kd.R_below (by (with_reducible repeat (first | apply Kd.R_alloc | apply Kd.R_drewN | apply Kd.R_drew)); exact HO_282002.out) hb); have n6_ := Aside0.mk (Kd.R_below (by (with_reducible repeat (first | apply Kd.R_alloc | apply Kd.R_drewN | apply Kd.R_drew)); exact HO_296000.out) hb); have n7_ := Aside0.mk (Kd.R_below (by (with_reducible repeat (first | apply Kd.R_alloc | apply Kd.R_drewN | apply Kd.R_drew)); exact HO_296001.out) hb); have n8_ := Aside0.mk (Kd.R_below (by (with_reducible repeat (first | apply Kd.R_alloc | apply Kd.R_drewN | apply Kd.R_drew)); exact HO_296002.out) hb); have n9_ := Aside0.mk (Kd.R_below (by (with_reducible repeat (first | apply Kd.R_alloc | apply Kd.R_drewN | apply Kd.R_drew)); exact HO335.out) hb); have n10_ := Aside0.mk (Kd.R_below (by (with_reducible repeat (first | apply Kd.R_alloc | apply Kd.R_drewN | apply Kd.R_drew)); exact HO338.out) hb); have n11_ := Aside0.mk (Kd.R_below (by (with_reducible repeat (first | apply Kd.R_alloc | apply Kd.R_drewN | apply Kd.R_drew)); exact HO341.out) hb); have n12_ := Aside0.mk (blk_below (g := gb242) (o := .cells #[.slice A0_0 l0_0.length c0_0, .slice A0_1 l0_1.length c0_1, .slice A0_2 l0_2.length c0_2, .int .i64 a0_3, .int .i64 a0_4] 25 (0, 0)) (by (with_reducible repeat (first | refine blk_drewN ?_ _ | refine blk_drew ?_ | refine blk_alloc ?_ _)); exact BK242.out) hb); have n13_ := Aside0.mk (blk_below (g := gb268) (o := .cells #[.slice Ao22 t255.length co22, .slice Ao26 t258.length co26, .slice Ao27 t261.length co27, .int .i64 t264, .int .i64 t265] 29 (0, 0)) (by (with_reducible repeat (first | refine blk_drewN ?_ _ | refine blk_drew ?_ | refine blk_alloc ?_ _)); exact BK268.out) hb); have n14_ := Aside0.mk (blk_below (g := gb269) (o := .cells #[.int .i64 t266, .int .i64 t267] 37 (0, 0)) (by (with_reducible repeat (first | refine blk_drewN ?_ _ | refine blk_drew ?_ | refine blk_alloc ?_ _)); exact BK269.out) hb); have n15_ := Aside0.mk (blk_below (g := gb281) (o := .cells #[.slice Ao33 t312.length co33, .slice Ao38 t313.length co38, .slice Ao39 t314.length co39, .int .i64 t279, .int .i64 t280] 29 (0, 0)) (by (with_reducible repeat (first | refine blk_drewN ?_ _ | refine blk_drew ?_ | refine blk_alloc ?_ _)); exact BK281.out) hb); have n16_ := Aside0.mk (blk_below (g := gb295) (o := .cells #[.slice Ao43 t318.length co43, .slice Ao50 t319.length co50, .slice Ao51 t320.length co51, .int .i64 t291, .int .i64 t292] 29 (0, 0)) (by (with_reducible repeat (first | refine blk_drewN ?_ _ | refine blk_drew ?_ | refine blk_alloc ?_ _)); exact BK295.out) hb); have n17_ := Aside0.mk (blk_below (g := gb296) (o := .cells #[.int .i64 t293, .int .i64 t294] 37 (0, 0)) (by (with_reducible repeat (first | refine blk_drewN ?_ _ | refine blk_drew ?_ | refine blk_alloc ?_ _)); exact BK296.out) hb); have n18_ := Aside0.mk (blk_below (g := gb346) (o := .cells #[.slice Ao182 t333.length co182, .slice Ao191 t336.length co191, .slice Ao192 t339.length co192, .int .i64 t342, .int .i64 t343] 29 (0, 0)) (by (with_reducible repeat (first | refine blk_drewN ?_ _ | refine blk_drew ?_ | refine blk_alloc ?_ _)); exact BK346.out) hb); have n19_ := Aside0.mk (blk_below (g := gb347) (o := .cells #[.int .i64 t344, .int .i64 t345] 37 (0, 0)) (by (with_reducible repeat (first | refine blk_drewN ?_ _ | refine blk_drew ?_ | refine blk_alloc ?_ _)); exact BK347.out) hb); have n20_ := Aside0.mk (below_step (by repeat (first | (with_reducible first | exact HB.out | apply below_alloc | apply pw_below_drewN | apply below_drew1 | refine below_set ?_ GE242.out | refine below_set ?_ GE268.out | refine below_set ?_ GE269.out | refine below_set ?_ GE281.out | refine below_set ?_ GE295.out | refine below_set ?_ GE296.out | refine below_set ?_ GE346.out | refine below_set ?_ GE347.out) | exact HB.out)) hb); clear HO_269000; clear HO_269001; clear HO_269002; clear HO_282000; clear HO_282001; clear HO_282002; clear HO_296000; clear HO_296001; clear HO_296002; clear HO335; clear HO338; clear HO341; clear BK242; clear BK268; clear BK269; clear BK281; clear BK295; clear BK296; clear BK346; clear BK347; clear HB; have HO_269000 := n0_; have HO_269001 := n1_; have HO_269002 := n2_; have HO_282000 := n3_; have HO_282001 := n4_; have HO_282002 := n5_; have HO_296000 := n6_; have HO_296001 := n7_; have HO_296002 := n8_; have HO335 := n9_; have HO338 := n10_; have HO341 := n11_; have BK242 := n12_; have BK268 := n13_; have BK269 := n14_; have BK281 := n15_; have BK295 := n16_; have BK296 := n17_; have BK346 := n18_; have BK347 := n19_; have HB := n20_; clear n0_ n1_ n2_ n3_ n4_ n5_ n6_ n7_ n8_ n9_ n10_ n11_ n12_ n13_ n14_ n15_ n16_ n17_ n18_ n19_ n20_; (try clear hb); (try clear hb2); (try clear hk); (try clear hi)))
        go_meet
        case rel => exact ⟨_, (!t349), (by first | rfl | (simp; done) | (simp [*]; done)), H', ⟨by have := HJ3.out; have := HJ12.out; have := HJ91.out; have := HJ95.out; have := HJ104.out; have := HJ148.out; have := HJ152.out; have := HJ163.out; first | omega | exact Nat.le_refl _⟩, ⟨by (try simp only [hl282000_104]); (try simp only [hl282001_104]); (try simp only [hl282002_104]); (try simp only [hl296000_152]); (try simp only [hl296001_152]); (try simp only [hl296002_152]); (with_reducible repeat (first | apply Kd.R_alloc | apply Kd.R_drewN | apply Kd.R_drew)); exact Kd.R_mono HO_269000.out (fun _ hk => ⟨hk.1.1.1, ⟨hk.1.1.2, hk.2⟩⟩)⟩, ⟨by (try simp only [hl282000_104]); (try simp only [hl282001_104]); (try simp only [hl282002_104]); (try simp only [hl296000_152]); (try simp only [hl296001_152]); (try simp only [hl296002_152]); (with_reducible repeat (first | apply Kd.R_alloc | apply Kd.R_drewN | apply Kd.R_drew)); exact Kd.R_mono HO_269001.out (fun _ hk => ⟨hk.1.1.1.1.1, ⟨hk.1.1.1.1.2.1, ⟨hk.1.1.1.1.2.2.1, ⟨hk.1.1.1.1.2.2.2.1, ⟨hk.1.1.1.1.2.2.2.2, ⟨hk.1.2, hk.2⟩⟩⟩⟩⟩⟩)⟩, ⟨by (try simp only [hl282000_104]); (try simp only [hl282001_104]); (try simp only [hl282002_104]); (try simp only [hl296000_152]); (try simp only [hl296001_152]); (try simp only [hl296002_152]); (with_reducible repeat (first | apply Kd.R_alloc | apply Kd.R_drewN | apply Kd.R_drew)); exact Kd.R_mono HO_269002.out (fun _ hk => ⟨hk.1.1.1.1.1, ⟨hk.1.1.1.1.2.1, ⟨hk.1.1.1.1.2.2.1, ⟨hk.1.1.1.1.2.2.2.1, ⟨hk.1.1.1.1.2.2.2.2, ⟨hk.1.2, hk.2⟩⟩⟩⟩⟩⟩)⟩, ⟨by (try simp only [hl282000_104]); (try simp only [hl282001_104]); (try simp only [hl282002_104]); (try simp only [hl296000_152]); (try simp only [hl296001_152]); (try simp only [hl296002_152]); (with_reducible repeat (first | apply Kd.R_alloc | apply Kd.R_drewN | apply Kd.R_drew)); exact Kd.R_mono HO_282000.out (fun _ hk => ⟨hk.1.1.1, ⟨hk.1.1.2, hk.2⟩⟩)⟩, ⟨by (try simp only [hl282000_104]); (try simp only [hl282001_104]); (try simp only [hl282002_104]); (try simp only [hl296000_152]); (try simp only [hl296001_152]); (try simp only [hl296002_152]); (with_reducible repeat (first | apply Kd.R_alloc | apply Kd.R_drewN | apply Kd.R_drew)); exact Kd.R_mono HO_282001.out (fun _ hk => ⟨hk.1.1.1.1.1, ⟨hk.1.1.1.1.2.1, ⟨hk.1.1.1.1.2.2.1, ⟨hk.1.1.1.1.2.2.2.1, ⟨hk.1.1.1.1.2.2.2.2, ⟨hk.1.2, hk.2⟩⟩⟩⟩⟩⟩)⟩, ⟨by (try simp only [hl282000_104]); (try simp only [hl282001_104]); (try simp only [hl282002_104]); (try simp only [hl296000_152]); (try simp only [hl296001_152]); (try simp only [hl296002_152]); (with_reducible repeat (first | apply Kd.R_alloc | apply Kd.R_drewN | apply Kd.R_drew)); exact Kd.R_mono HO_282002.out (fun _ hk => ⟨hk.1.1.1.1.1, ⟨hk.1.1.1.1.2.1, ⟨hk.1.1.1.1.2.2.1, ⟨hk.1.1.1.1.2.2.2.1, ⟨hk.1.1.1.1.2.2.2.2, ⟨hk.1.2, hk.2⟩⟩⟩⟩⟩⟩)⟩, ⟨by (try simp only [hl282000_104]); (try simp only [hl282001_104]); (try simp only [hl282002_104]); (try simp only [hl296000_152]); (try simp only [hl296001_152]); (try simp only [hl296002_152]); (with_reducible repeat (first | apply Kd.R_alloc | apply Kd.R_drewN | apply Kd.R_drew)); exact Kd.R_mono HO_296000.out (fun _ hk => ⟨hk.1.1.1, ⟨hk.1.1.2, hk.2⟩⟩)⟩, ⟨by (try simp only [hl282000_104]); (try simp only [hl282001_104]); (try simp only [hl282002_104]); (try simp only [hl296000_152]); (try simp only [hl296001_152]); (try simp only [hl296002_152]); (with_reducible repeat (first | apply Kd.R_alloc | apply Kd.R_drewN | apply Kd.R_drew)); exact Kd.R_mono HO_296001.out (fun _ hk => ⟨hk.1.1.1.1.1, ⟨hk.1.1.1.1.2.1, ⟨hk.1.1.1.1.2.2.1, ⟨hk.1.1.1.1.2.2.2.1, ⟨hk.1.1.1.1.2.2.2.2, ⟨hk.1.2, hk.2⟩⟩⟩⟩⟩⟩)⟩, ⟨by (try simp only [hl282000_104]); (try simp only [hl282001_104]); (try simp only [hl282002_104]); (try simp only [hl296000_152]); (try simp only [hl296001_152]); (try simp only [hl296002_152]); (with_reducible repeat (first | apply Kd.R_alloc | apply Kd.R_drewN | apply Kd.R_drew)); exact Kd.R_mono HO_296002.out (fun _ hk => ⟨hk.1.1.1.1.1, ⟨hk.1.1.1.1.2.1, ⟨hk.1.1.1.1.2.2.1, ⟨hk.1.1.1.1.2.2.2.1, ⟨hk.1.1.1.1.2.2.2.2, ⟨hk.1.2, hk.2⟩⟩⟩⟩⟩⟩)⟩, ⟨by (try simp only [hl282000_104]); (try simp only [hl282001_104]); (try simp only [hl282002_104]); (try simp only [hl296000_152]); (try simp only [hl296001_152]); (try simp only [hl296002_152]); (with_reducible repeat (first | apply Kd.R_alloc | apply Kd.R_drewN | apply Kd.R_drew)); exact Kd.R_mono HO335.out (fun _ hk => ⟨hk.1.1.1.2, ⟨hk.1.1.2, hk.1.2⟩⟩)⟩, ⟨by (try simp only [hl282000_104]); (try simp only [hl282001_104]); (try simp only [hl282002_104]); (try simp only [hl296000_152]); (try simp only [hl296001_152]); (try simp only [hl296002_152]); (with_reducible repeat (first | apply Kd.R_alloc | apply Kd.R_drewN | apply Kd.R_drew)); exact Kd.R_mono HO338.out (fun _ hk => ⟨hk.1.1.1.1.1.1.1.2, ⟨hk.1.1.1.1.1.1.2, ⟨hk.1.1.1.1.1.2, ⟨hk.1.1.1.1.2, ⟨hk.1.1.1.2, ⟨hk.1.1.2, hk.1.1.1.1.1.1.1.1⟩⟩⟩⟩⟩⟩)⟩, ⟨by (try simp only [hl282000_104]); (try simp only [hl282001_104]); (try simp only [hl282002_104]); (try simp only [hl296000_152]); (try simp only [hl296001_152]); (try simp only [hl296002_152]); (with_reducible repeat (first | apply Kd.R_alloc | apply Kd.R_drewN | apply Kd.R_drew)); exact Kd.R_mono HO341.out (fun _ hk => ⟨hk.1.1.1.1.1.1.1.2, ⟨hk.1.1.1.1.1.1.2, ⟨hk.1.1.1.1.1.2, ⟨hk.1.1.1.1.2, ⟨hk.1.1.1.2, ⟨hk.1.1.2, hk.1.1.1.1.1.1.1.1⟩⟩⟩⟩⟩⟩)⟩, ⟨by (try simp only [hl282000_104]); (try simp only [hl282001_104]); (try simp only [hl282002_104]); (try simp only [hl296000_152]); (try simp only [hl296001_152]); (try simp only [hl296002_152]); (with_reducible repeat (first | refine blk_drewN ?_ _ | refine blk_drew ?_ | refine blk_alloc ?_ _)); exact BK242.out⟩, ⟨by (try simp only [hl282000_104]); (try simp only [hl282001_104]); (try simp only [hl282002_104]); (try simp only [hl296000_152]); (try simp only [hl296001_152]); (try simp only [hl296002_152]); (with_reducible repeat (first | refine blk_drewN ?_ _ | refine blk_drew ?_ | refine blk_alloc ?_ _)); exact BK268.out⟩, ⟨by (try simp only [hl282000_104]); (try simp only [hl282001_104]); (try simp only [hl282002_104]); (try simp only [hl296000_152]); (try simp only [hl296001_152]); (try simp only [hl296002_152]); (with_reducible repeat (first | refine blk_drewN ?_ _ | refine blk_drew ?_ | refine blk_alloc ?_ _)); exact BK269.out⟩, ⟨by (try simp only [hl282000_104]); (try simp only [hl282001_104]); (try simp only [hl282002_104]); (try simp only [hl296000_152]); (try simp only [hl296001_152]); (try simp only [hl296002_152]); (with_reducible repeat (first | refine blk_drewN ?_ _ | refine blk_drew ?_ | refine blk_alloc ?_ _)); exact BK281.out⟩, ⟨by (try simp only [hl282000_104]); (try simp only [hl282001_104]); (try simp only [hl282002_104]); (try simp only [hl296000_152]); (try simp only [hl296001_152]); (try simp only [hl296002_152]); (with_reducible repeat (first | refine blk_drewN ?_ _ | refine blk_drew ?_ | refine blk_alloc ?_ _)); exact BK295.out⟩, ⟨by (try simp only [hl282000_104]); (try simp only [hl282001_104]); (try simp only [hl282002_104]); (try simp only [hl296000_152]); (try simp only [hl296001_152]); (try simp only [hl296002_152]); (with_reducible repeat (first | refine blk_drewN ?_ _ | refine blk_drew ?_ | refine blk_alloc ?_ _)); exact BK296.out⟩, ⟨by (try simp only [hl282000_104]); (try simp only [hl282001_104]); (try simp only [hl282002_104]); (try simp only [hl296000_152]); (try simp only [hl296001_152]); (try simp only [hl296002_152]); (with_reducible repeat (first | refine blk_drewN ?_ _ | refine blk_drew ?_ | refine blk_alloc ?_ _)); exact BK346.out⟩, ⟨by (try simp only [hl282000_104]); (try simp only [hl282001_104]); (try simp only [hl282002_104]); (try simp only [hl296000_152]); (try simp only [hl296001_152]); (try simp only [hl296002_152]); (with_reducible repeat (first | refine blk_drewN ?_ _ | refine blk_drew ?_ | refine blk_alloc ?_ _)); exact BK347.out⟩, ⟨by repeat (first | (with_reducible first | exact HB.out | apply below_alloc | apply pw_below_drewN | apply below_drew1 | refine below_set ?_ GE242.out | refine below_set ?_ GE268.out | refine below_set ?_ GE269.out | refine below_set ?_ GE281.out | refine below_set ?_ GE295.out | refine below_set ?_ GE296.out | refine below_set ?_ GE346.out | refine below_set ?_ GE347.out) | exact HB.out)⟩⟩
       ·
        replace c201 := Bool.eq_false_iff.mpr c201
        subst c201
        have H1 : (laws_FnExactFresh.j8 kj163 t317 true t318 t319 t320 t291 t292) = some r := by rw [if_neg (show ¬ (false = true) by decide)] at H; exact H
        clear H
        have H := H1
        clear H1
        have H' := Aside0.mk H
        clear H
        have hnb231 := NB346_242.out
        have hnc231 := NB242_346.out
        have hnb232 := NB346_268.out
        have hnc232 := NB268_346.out
        have hnb233 := NB346_269.out
        have hnc233 := NB269_346.out
        have hnb234 := NB346_281.out
        have hnc234 := NB281_346.out
        have hnb235 := NB346_295.out
        have hnc235 := NB295_346.out
        have hnb236 := NB346_296.out
        have hnc236 := NB296_346.out
        have hnb237 := NB346_347.out
        have hnc237 := NB347_346.out
        have hcz238_0 : w181.cell? ⟨gb346, 0, none⟩ = some (.slice none 0 0) := (blk_cell BK346.out 0).trans rfl
        have hcz238_1 : w181.cell? ⟨gb346, 1, none⟩ = some (.slice none 0 0) := (blk_cell BK346.out 1).trans rfl
        have hcz238_2 : w181.cell? ⟨gb346, 2, none⟩ = some (.slice none 0 0) := (blk_cell BK346.out 2).trans rfl
        have hcz238_3 : w181.cell? ⟨gb346, 3, none⟩ = some (.int .i64 0) := (blk_cell BK346.out 3).trans rfl
        have hcz238_4 : w181.cell? ⟨gb346, 4, none⟩ = some (.int .i64 0) := (blk_cell BK346.out 4).trans rfl
        have hfz238_0 := blk_frozen BK346.out 0
        have hfz238_1 := blk_frozen BK346.out 1
        have hfz238_2 := blk_frozen BK346.out 2
        have hfz238_3 := blk_frozen BK346.out 3
        have hfz238_4 := blk_frozen BK346.out 4
        have hnb239 := NB268_242.out
        have hnc239 := NB242_268.out
        have hnb240 := NB268_269.out
        have hnc240 := NB269_268.out
        have hnb241 := NB268_281.out
        have hnc241 := NB281_268.out
        have hnb242 := NB268_295.out
        have hnc242 := NB295_268.out
        have hnb243 := NB268_296.out
        have hnc243 := NB296_268.out
        have hnb244 := NB268_347.out
        have hnc244 := NB347_268.out
        have hcz245_0 : w181.cell? ⟨gb268, 0, none⟩ = some (.slice Ao22 t255.length co22) := (blk_cell BK268.out 0).trans rfl
        have hcz245_1 : w181.cell? ⟨gb268, 1, none⟩ = some (.slice Ao26 t258.length co26) := (blk_cell BK268.out 1).trans rfl
        have hcz245_2 : w181.cell? ⟨gb268, 2, none⟩ = some (.slice Ao27 t261.length co27) := (blk_cell BK268.out 2).trans rfl
        have hcz245_3 : w181.cell? ⟨gb268, 3, none⟩ = some (.int .i64 t264) := (blk_cell BK268.out 3).trans rfl
        have hcz245_4 : w181.cell? ⟨gb268, 4, none⟩ = some (.int .i64 t265) := (blk_cell BK268.out 4).trans rfl
        have hfz245_0 := blk_frozen BK268.out 0
        have hfz245_1 := blk_frozen BK268.out 1
        have hfz245_2 := blk_frozen BK268.out 2
        have hfz245_3 := blk_frozen BK268.out 3
        have hfz245_4 := blk_frozen BK268.out 4
        go_wp2_with (first | ((with_reducible refine gate_callee (f := 14) rfl ?_); refine goesL_ (some 88) rfl rfl Try.func14 (by kernel_rfl) rfl #[.agg #[.slice Ao182 t333.length co182, .slice Ao191 t336.length co191, .slice Ao192 t339.length co192, .int .i64 t342, .int .i64 t343], .agg #[.slice Ao22 t255.length co22, .slice Ao26 t258.length co26, .slice Ao27 t261.length co27, .int .i64 t264, .int .i64 t265]] rfl (by (try simp only [List.map_toArray, List.map_cons, List.map_nil]); first | done | rfl | (simp only [List.length_drop, List.length_take]; rfl)) ?_; (with_reducible refine (laws_eqMemory.calls kj163 _ _ t333 _ _ t336 _ _ t339 t342 t343 _ _ t255 _ _ t258 _ _ t261 t264 t265 false _ ?side1 ?side2 ?side3 ?side4 ?side5 ?side6 ?side7 ?side8 ?side9 ?side10 ?side11 ?side12 A200.out).mono ?_); (case side1 => refine (Kd.R_reads' (e := 96) (base := w.heap.size) (ok := fun k_ => ((((True ∧ some k_ ≠ (.slice Ao22 t255.length co22 : Value).ownBlock) ∧ some k_ ≠ (.slice Ao33 t312.length co33 : Value).ownBlock) ∧ some k_ ≠ (.slice Ao43 t318.length co43 : Value).ownBlock) ∧ some k_ ≠ (.slice Ao176 t322.length co176 : Value).ownBlock)) (n := t333.length) (c := co182) ?_).2.2; exact (by (with_reducible repeat (first | apply Kd.R_alloc | apply Kd.R_drewN | apply Kd.R_drew)); exact (Kd.R_mono (Kd.R_mono (Kd.R_far (p := ⟨gb347, 1, none⟩) (Kd.R_far (p := ⟨gb347, 0, none⟩) (Kd.R_far (p := ⟨gb346, 4, none⟩) (Kd.R_far (p := ⟨gb346, 3, none⟩) (Kd.R_far (p := ⟨gb346, 2, none⟩) (Kd.R_far (p := ⟨gb346, 1, none⟩) (Kd.R_far (p := ⟨gb346, 0, none⟩) (Kd.R_types (Kd.R_types HO335.out BK346.out (by decide)) BK347.out (by decide)) (fun _ hk => hk.1.2) (.slice Ao182 t333.length co182)) (fun _ hk => hk.1.2) (.slice Ao191 t336.length co191)) (fun _ hk => hk.1.2) (.slice Ao192 t339.length co192)) (fun _ hk => hk.1.2) (.int .i64 t342)) (fun _ hk => hk.1.2) (.int .i64 t343)) (fun _ hk => hk.2) (.int .i64 t344)) (fun _ hk => hk.2) (.int .i64 t345)) (fun _ h_ => h_.1)) (fun _ h_ => h_.1)))); (case side2 => exact (Kd.R_reads' HO335.out).2.1); (case side3 => refine (Kd.R_reads' (e := 3) (base := w.heap.size) (ok := fun k_ => ((((((((some k_ ≠ (.slice Ao192 t339.length co192 : Value).ownBlock ∧ some k_ ≠ (.slice Ao26 t258.length co26 : Value).ownBlock) ∧ some k_ ≠ (.slice Ao27 t261.length co27 : Value).ownBlock) ∧ some k_ ≠ (.slice Ao38 t313.length co38 : Value).ownBlock) ∧ some k_ ≠ (.slice Ao39 t314.length co39 : Value).ownBlock) ∧ some k_ ≠ (.slice Ao50 t319.length co50 : Value).ownBlock) ∧ some k_ ≠ (.slice Ao51 t320.length co51 : Value).ownBlock) ∧ some k_ ≠ (.slice Ao177 t325.length co177 : Value).ownBlock) ∧ some k_ ≠ (.slice Ao178 t328.length co178 : Value).ownBlock)) (n := t336.length) (c := co191) ?_).2.2; exact (by (with_reducible repeat (first | apply Kd.R_alloc | apply Kd.R_drewN | apply Kd.R_drew)); exact (Kd.R_mono (Kd.R_mono (Kd.R_far (p := ⟨gb347, 1, none⟩) (Kd.R_far (p := ⟨gb347, 0, none⟩) (Kd.R_far (p := ⟨gb346, 4, none⟩) (Kd.R_far (p := ⟨gb346, 3, none⟩) (Kd.R_far (p := ⟨gb346, 2, none⟩) (Kd.R_far (p := ⟨gb346, 1, none⟩) (Kd.R_far (p := ⟨gb346, 0, none⟩) (Kd.R_types (Kd.R_types HO338.out BK346.out (by decide)) BK347.out (by decide)) (fun _ hk => hk.1.2) (.slice Ao182 t333.length co182)) (fun _ hk => hk.1.2) (.slice Ao191 t336.length co191)) (fun _ hk => hk.1.2) (.slice Ao192 t339.length co192)) (fun _ hk => hk.1.2) (.int .i64 t342)) (fun _ hk => hk.1.2) (.int .i64 t343)) (fun _ hk => hk.2) (.int .i64 t344)) (fun _ hk => hk.2) (.int .i64 t345)) (fun _ h_ => h_.1)) (fun _ h_ => h_.1)))); (case side4 => exact (Kd.R_reads' HO338.out).2.1); (case side5 => refine (Kd.R_reads' (e := 3) (base := w.heap.size) (ok := fun k_ => ((((((((some k_ ≠ (.slice Ao191 t336.length co191 : Value).ownBlock ∧ some k_ ≠ (.slice Ao26 t258.length co26 : Value).ownBlock) ∧ some k_ ≠ (.slice Ao27 t261.length co27 : Value).ownBlock) ∧ some k_ ≠ (.slice Ao38 t313.length co38 : Value).ownBlock) ∧ some k_ ≠ (.slice Ao39 t314.length co39 : Value).ownBlock) ∧ some k_ ≠ (.slice Ao50 t319.length co50 : Value).ownBlock) ∧ some k_ ≠ (.slice Ao51 t320.length co51 : Value).ownBlock) ∧ some k_ ≠ (.slice Ao177 t325.length co177 : Value).ownBlock) ∧ some k_ ≠ (.slice Ao178 t328.length co178 : Value).ownBlock)) (n := t339.length) (c := co192) ?_).2.2; exact (by (with_reducible repeat (first | apply Kd.R_alloc | apply Kd.R_drewN | apply Kd.R_drew)); exact (Kd.R_mono (Kd.R_mono (Kd.R_far (p := ⟨gb347, 1, none⟩) (Kd.R_far (p := ⟨gb347, 0, none⟩) (Kd.R_far (p := ⟨gb346, 4, none⟩) (Kd.R_far (p := ⟨gb346, 3, none⟩) (Kd.R_far (p := ⟨gb346, 2, none⟩) (Kd.R_far (p := ⟨gb346, 1, none⟩) (Kd.R_far (p := ⟨gb346, 0, none⟩) (Kd.R_types (Kd.R_types HO341.out BK346.out (by decide)) BK347.out (by decide)) (fun _ hk => hk.1.2) (.slice Ao182 t333.length co182)) (fun _ hk => hk.1.2) (.slice Ao191 t336.length co191)) (fun _ hk => hk.1.2) (.slice Ao192 t339.length co192)) (fun _ hk => hk.1.2) (.int .i64 t342)) (fun _ hk => hk.1.2) (.int .i64 t343)) (fun _ hk => hk.2) (.int .i64 t344)) (fun _ hk => hk.2) (.int .i64 t345)) (fun _ h_ => h_.1)) (fun _ h_ => h_.1)))); (case side6 => exact (Kd.R_reads' HO341.out).2.1); (case side7 => refine (Kd.R_reads' (e := 96) (base := w.heap.size) (ok := fun k_ => (((some k_ ≠ (.slice Ao33 t312.length co33 : Value).ownBlock ∧ some k_ ≠ (.slice Ao43 t318.length co43 : Value).ownBlock) ∧ some k_ ≠ (.slice Ao176 t322.length co176 : Value).ownBlock) ∧ some k_ ≠ (.slice Ao182 t333.length co182 : Value).ownBlock)) (n := t255.length) (c := co22) ?_).2.2; exact (by (with_reducible repeat (first | apply Kd.R_alloc | apply Kd.R_drewN | apply Kd.R_drew)); exact (Kd.R_mono (Kd.R_mono (Kd.R_far (p := ⟨gb347, 1, none⟩) (Kd.R_far (p := ⟨gb347, 0, none⟩) (Kd.R_far (p := ⟨gb346, 4, none⟩) (Kd.R_far (p := ⟨gb346, 3, none⟩) (Kd.R_far (p := ⟨gb346, 2, none⟩) (Kd.R_far (p := ⟨gb346, 1, none⟩) (Kd.R_far (p := ⟨gb346, 0, none⟩) (Kd.R_types (Kd.R_types HO_269000.out BK346.out (by decide)) BK347.out (by decide)) (fun _ hk => hk.1.2) (.slice Ao182 t333.length co182)) (fun _ hk => hk.1.2) (.slice Ao191 t336.length co191)) (fun _ hk => hk.1.2) (.slice Ao192 t339.length co192)) (fun _ hk => hk.1.2) (.int .i64 t342)) (fun _ hk => hk.1.2) (.int .i64 t343)) (fun _ hk => hk.2) (.int .i64 t344)) (fun _ hk => hk.2) (.int .i64 t345)) (fun _ h_ => h_.1)) (fun _ h_ => h_.1)))); (case side8 => exact (Kd.R_reads' HO_269000.out).2.1); (case side9 => refine (Kd.R_reads' (e := 3) (base := w.heap.size) (ok := fun k_ => (((((some k_ ≠ (.slice Ao27 t261.length co27 : Value).ownBlock ∧ (some k_ ≠ (.slice Ao38 t313.length co38 : Value).ownBlock ∧ (some k_ ≠ (.slice Ao39 t314.length co39 : Value).ownBlock ∧ (some k_ ≠ (.slice Ao50 t319.length co50 : Value).ownBlock ∧ some k_ ≠ (.slice Ao51 t320.length co51 : Value).ownBlock)))) ∧ some k_ ≠ (.slice Ao177 t325.length co177 : Value).ownBlock) ∧ some k_ ≠ (.slice Ao178 t328.length co178 : Value).ownBlock) ∧ some k_ ≠ (.slice Ao191 t336.length co191 : Value).ownBlock) ∧ some k_ ≠ (.slice Ao192 t339.length co192 : Value).ownBlock)) (n := t258.length) (c := co26) ?_).2.2; exact (by (with_reducible repeat (first | apply Kd.R_alloc | apply Kd.R_drewN | apply Kd.R_drew)); exact (Kd.R_mono (Kd.R_mono (Kd.R_far (p := ⟨gb347, 1, none⟩) (Kd.R_far (p := ⟨gb347, 0, none⟩) (Kd.R_far (p := ⟨gb346, 4, none⟩) (Kd.R_far (p := ⟨gb346, 3, none⟩) (Kd.R_far (p := ⟨gb346, 2, none⟩) (Kd.R_far (p := ⟨gb346, 1, none⟩) (Kd.R_far (p := ⟨gb346, 0, none⟩) (Kd.R_types (Kd.R_types HO_269001.out BK346.out (by decide)) BK347.out (by decide)) (fun _ hk => hk.1.2) (.slice Ao182 t333.length co182)) (fun _ hk => hk.1.2) (.slice Ao191 t336.length co191)) (fun _ hk => hk.1.2) (.slice Ao192 t339.length co192)) (fun _ hk => hk.1.2) (.int .i64 t342)) (fun _ hk => hk.1.2) (.int .i64 t343)) (fun _ hk => hk.2) (.int .i64 t344)) (fun _ hk => hk.2) (.int .i64 t345)) (fun _ h_ => h_.1)) (fun _ h_ => h_.1)))); (case side10 => exact (Kd.R_reads' HO_269001.out).2.1); (case side11 => refine (Kd.R_reads' (e := 3) (base := w.heap.size) (ok := fun k_ => (((((some k_ ≠ (.slice Ao26 t258.length co26 : Value).ownBlock ∧ (some k_ ≠ (.slice Ao38 t313.length co38 : Value).ownBlock ∧ (some k_ ≠ (.slice Ao39 t314.length co39 : Value).ownBlock ∧ (some k_ ≠ (.slice Ao50 t319.length co50 : Value).ownBlock ∧ some k_ ≠ (.slice Ao51 t320.length co51 : Value).ownBlock)))) ∧ some k_ ≠ (.slice Ao177 t325.length co177 : Value).ownBlock) ∧ some k_ ≠ (.slice Ao178 t328.length co178 : Value).ownBlock) ∧ some k_ ≠ (.slice Ao191 t336.length co191 : Value).ownBlock) ∧ some k_ ≠ (.slice Ao192 t339.length co192 : Value).ownBlock)) (n := t261.length) (c := co27) ?_).2.2; exact (by (with_reducible repeat (first | apply Kd.R_alloc | apply Kd.R_drewN | apply Kd.R_drew)); exact (Kd.R_mono (Kd.R_mono (Kd.R_far (p := ⟨gb347, 1, none⟩) (Kd.R_far (p := ⟨gb347, 0, none⟩) (Kd.R_far (p := ⟨gb346, 4, none⟩) (Kd.R_far (p := ⟨gb346, 3, none⟩) (Kd.R_far (p := ⟨gb346, 2, none⟩) (Kd.R_far (p := ⟨gb346, 1, none⟩) (Kd.R_far (p := ⟨gb346, 0, none⟩) (Kd.R_types (Kd.R_types HO_269002.out BK346.out (by decide)) BK347.out (by decide)) (fun _ hk => hk.1.2) (.slice Ao182 t333.length co182)) (fun _ hk => hk.1.2) (.slice Ao191 t336.length co191)) (fun _ hk => hk.1.2) (.slice Ao192 t339.length co192)) (fun _ hk => hk.1.2) (.int .i64 t342)) (fun _ hk => hk.1.2) (.int .i64 t343)) (fun _ hk => hk.2) (.int .i64 t344)) (fun _ hk => hk.2) (.int .i64 t345)) (fun _ h_ => h_.1)) (fun _ h_ => h_.1)))); (case side12 => exact (Kd.R_reads' HO_269002.out).2.1); rintro e w246 ⟨rfl, hb⟩; refine ⟨_, rfl, ?_⟩; have n0_ := Aside0.mk (Kd.R_below (by (with_reducible repeat (first | apply Kd.R_alloc | apply Kd.R_drewN | apply Kd.R_drew)); exact (Kd.R_mono (Kd.R_mono (Kd.R_far (p := ⟨gb347, 1, none⟩) (Kd.R_far (p := ⟨gb347, 0, none⟩) (Kd.R_far (p := ⟨gb346, 4, none⟩) (Kd.R_far (p := ⟨gb346, 3, none⟩) (Kd.R_far (p := ⟨gb346, 2, none⟩) (Kd.R_far (p := ⟨gb346, 1, none⟩) (Kd.R_far (p := ⟨gb346, 0, none⟩) (Kd.R_types (Kd.R_types HO_269000.out BK346.out (by decide)) BK347.out (by decide)) (fun _ hk => hk.1.2) (.slice Ao182 t333.length co182)) (fun _ hk => hk.1.2) (.slice Ao191 t336.length co191)) (fun _ hk => hk.1.2) (.slice Ao192 t339.length co192)) (fun _ hk => hk.1.2) (.int .i64 t342)) (fun _ hk => hk.1.2) (.int .i64 t343)) (fun _ hk => hk.2) (.int .i64 t344)) (fun _ hk => hk.2) (.int .i64 t345)) (fun _ h_ => h_.1)) (fun _ h_ => h_.1))) hb); have n1_ := Aside0.mk (Kd.R_below (by (with_reducible repeat (first | apply Kd.R_alloc | apply Kd.R_drewN | apply Kd.R_drew)); exact (Kd.R_mono (Kd.R_mono (Kd.R_far (p := ⟨gb347, 1, none⟩) (Kd.R_far (p := ⟨gb347, 0, none⟩) (Kd.R_far (p := ⟨gb346, 4, none⟩) (Kd.R_far (p := ⟨gb346, 3, none⟩) (Kd.R_far (p := ⟨gb346, 2, none⟩) (Kd.R_far (p := ⟨gb346, 1, none⟩) (Kd.R_far (p := ⟨gb346, 0, none⟩) (Kd.R_types (Kd.R_types HO_269001.out BK346.out (by decide)) BK347.out (by decide)) (fun _ hk => hk.1.2) (.slice Ao182 t333.length co182)) (fun _ hk => hk.1.2) (.slice Ao191 t336.length co191)) (fun _ hk => hk.1.2) (.slice Ao192 t339.length co192)) (fun _ hk => hk.1.2) (.int .i64 t342)) (fun _ hk => hk.1.2) (.int .i64 t343)) (fun _ hk => hk.2) (.int .i64 t344)) (fun _ hk => hk.2) (.int .i64 t345)) (fun _ h_ => h_.1)) (fun _ h_ => h_.1))) hb); have n2_ := Aside0.mk (Kd.R_below (by (with_reducible repeat (first | apply Kd.R_alloc | apply Kd.R_drewN | apply Kd.R_drew)); exact (Kd.R_mono (Kd.R_mono (Kd.R_far (p := ⟨gb347, 1, none⟩) (Kd.R_far (p := ⟨gb347, 0, none⟩) (Kd.R_far (p := ⟨gb346, 4, none⟩) (Kd.R_far (p := ⟨gb346, 3, none⟩) (Kd.R_far (p := ⟨gb346, 2, none⟩) (Kd.R_far (p := ⟨gb346, 1, none⟩) (Kd.R_far (p := ⟨gb346, 0, none⟩) (Kd.R_types (Kd.R_types HO_269002.out BK346.out (by decide)) BK347.out (by decide)) (fun _ hk => hk.1.2) (.slice Ao182 t333.length co182)) (fun _ hk => hk.1.2) (.slice Ao191 t336.length co191)) (fun _ hk => hk.1.2) (.slice Ao192 t339.length co192)) (fun _ hk => hk.1.2) (.int .i64 t342)) (fun _ hk => hk.1.2) (.int .i64 t343)) (fun _ hk => hk.2) (.int .i64 t344)) (fun _ hk => hk.2) (.int .i64 t345)) (fun _ h_ => h_.1)) (fun _ h_ => h_.1))) hb); have n3_ := Aside0.mk (Kd.R_below (by (with_reducible repeat (first | apply Kd.R_alloc | apply Kd.R_drewN | apply Kd.R_drew)); exact (Kd.R_mono (Kd.R_mono (Kd.R_far (p := ⟨gb347, 1, none⟩) (Kd.R_far (p := ⟨gb347, 0, none⟩) (Kd.R_far (p := ⟨gb346, 4, none⟩) (Kd.R_far (p := ⟨gb346, 3, none⟩) (Kd.R_far (p := ⟨gb346, 2, none⟩) (Kd.R_far (p := ⟨gb346, 1, none⟩) (Kd.R_far (p := ⟨gb346, 0, none⟩) (Kd.R_types (Kd.R_types HO_282000.out BK346.out (by decide)) BK347.out (by decide)) (fun _ hk => hk.1.2) (.slice Ao182 t333.length co182)) (fun _ hk => hk.1.2) (.slice Ao191 t336.length co191)) (fun _ hk => hk.1.2) (.slice Ao192 t339.length co192)) (fun _ hk => hk.1.2) (.int .i64 t342)) (fun _ hk => hk.1.2) (.int .i64 t343)) (fun _ hk => hk.2) (.int .i64 t344)) (fun _ hk => hk.2) (.int .i64 t345)) (fun _ h_ => h_.1)) (fun _ h_ => h_.1))) hb); have n4_ := Aside0.mk (Kd.R_below (by (with_reducible repeat (first | apply Kd.R_alloc | apply Kd.R_drewN | apply Kd.R_drew)); exact (Kd.R_mono (Kd.R_mono (Kd.R_far (p := ⟨gb347, 1, none⟩) (Kd.R_far (p := ⟨gb347, 0, none⟩) (Kd.R_far (p := ⟨gb346, 4, none⟩) (Kd.R_far (p := ⟨gb346, 3, none⟩) (Kd.R_far (p := ⟨gb346, 2, none⟩) (Kd.R_far (p := ⟨gb346, 1, none⟩) (Kd.R_far (p := ⟨gb346, 0, none⟩) (Kd.R_types (Kd.R_types HO_282001.out BK346.out (by decide)) BK347.out (by decide)) (fun _ hk => hk.1.2) (.slice Ao182 t333.length co182)) (fun _ hk => hk.1.2) (.slice Ao191 t336.length co191)) (fun _ hk => hk.1.2) (.slice Ao192 t339.length co192)) (fun _ hk => hk.1.2) (.int .i64 t342)) (fun _ hk => hk.1.2) (.int .i64 t343)) (fun _ hk => hk.2) (.int .i64 t344)) (fun _ hk => hk.2) (.int .i64 t345)) (fun _ h_ => h_.1)) (fun _ h_ => h_.1))) hb); have n5_ := Aside0.mk (Kd.R_below (by (with_reducible repeat (first | apply Kd.R_alloc | apply Kd.R_drewN | apply Kd.R_drew)); exact (Kd.R_mono (Kd.R_mono (Kd.R_far (p := ⟨gb347, 1, none⟩) (Kd.R_far (p := ⟨gb347, 0, none⟩) (Kd.R_far (p := ⟨gb346, 4, none⟩) (Kd.R_far (p := ⟨gb346, 3, none⟩) (Kd.R_far (p := ⟨gb346, 2, none⟩) (Kd.R_far (p := ⟨gb346, 1, none⟩) (Kd.R_far (p := ⟨gb346, 0, none⟩) (Kd.R_types (Kd.R_types HO_282002.out BK346.out (by decide)) BK347.out (by decide)) (fun _ hk => hk.1.2) (.slice Ao182 t333.length co182)) (fun _ hk => hk.1.2) (.slice Ao191 t336.length co191)) (fun _ hk => hk.1.2) (.slice Ao192 t339.length co192)) (fun _ hk => hk.1.2) (.int .i64 t342)) (fun _ hk => hk.1.2) (.int .i64 t343)) (fun _ hk => hk.2) (.int .i64 t344)) (fun _ hk => hk.2) (.int .i64 t345)) (fun _ h_ => h_.1)) (fun _ h_ => h_.1))) hb); have n6_ := Aside0.mk (Kd.R_below (by (with_reducible repeat (first | apply Kd.R_alloc | apply Kd.R_drewN | apply Kd.R_drew)); exact (Kd.R_mono (Kd.R_mono (Kd.R_far (p := ⟨gb347, 1, none⟩) (Kd.R_far (p := ⟨gb347, 0, none⟩) (Kd.R_far (p := ⟨gb346, 4, none⟩) (Kd.R_far (p := ⟨gb346, 3, none⟩) (Kd.R_far (p := ⟨gb346, 2, none⟩) (Kd.R_far (p := ⟨gb346, 1, none⟩) (Kd.R_far (p := ⟨gb346, 0, none⟩) (Kd.R_types (Kd.R_types HO_296000.out BK346.out (by decide)) BK347.out (by decide)) (fun _ hk => hk.1.2) (.slice Ao182 t333.length co182)) (fun _ hk => hk.1.2) (.slice Ao191 t336.length co191)) (fun _ hk => hk.1.2) (.slice Ao192 t339.length co192)) (fun _ hk => hk.1.2) (.int .i64 t342)) (fun _ hk => hk.1.2) (.int .i64 t343)) (fun _ hk => hk.2) (.int .i64 t344)) (fun _ hk => hk.2) (.int .i64 t345)) (fun _ h_ => h_.1)) (fun _ h_ => h_.1))) hb); have n7_ := Aside0.mk (Kd.R_below (by (with_reducible repeat (first | apply Kd.R_alloc | apply Kd.R_drewN | apply Kd.R_drew)); exact (Kd.R_mono (Kd.R_mono (Kd.R_far (p := ⟨gb347, 1, none⟩) (Kd.R_far (p := ⟨gb347, 0, none⟩) (Kd.R_far (p := ⟨gb346, 4, none⟩) (Kd.R_far (p := ⟨gb346, 3, none⟩) (Kd.R_far (p := ⟨gb346, 2, none⟩) (Kd.R_far (p := ⟨gb346, 1, none⟩) (Kd.R_far (p := ⟨gb346, 0, none⟩) (Kd.R_types (Kd.R_types HO_296001.out BK346.out (by decide)) BK347.out (by decide)) (fun _ hk => hk.1.2) (.slice Ao182 t333.length co182)) (fun _ hk => hk.1.2) (.slice Ao191 t336.length co191)) (fun _ hk => hk.1.2) (.slice Ao192 t339.length co192)) (fun _ hk => hk.1.2) (.int .i64 t342)) (fun _ hk => hk.1.2) (.int .i64 t343)) (fun _ hk => hk.2) (.int .i64 t344)) (fun _ hk => hk.2) (.int .i64 t345)) (fun _ h_ => h_.1)) (fun _ h_ => h_.1))) hb); have n8_ := Aside0.mk (Kd.R_below (by (with_reducible repeat (first | apply Kd.R_alloc | apply Kd.R_drewN | apply Kd.R_drew)); exact (Kd.R_mono (Kd.R_mono (Kd.R_far (p := ⟨gb347, 1, none⟩) (Kd.R_far (p := ⟨gb347, 0, none⟩) (Kd.R_far (p := ⟨gb346, 4, none⟩) (Kd.R_far (p := ⟨gb346, 3, none⟩) (Kd.R_far (p := ⟨gb346, 2, none⟩) (Kd.R_far (p := ⟨gb346, 1, none⟩) (Kd.R_far (p := ⟨gb346, 0, none⟩) (Kd.R_types (Kd.R_types HO_296002.out BK346.out (by decide)) BK347.out (by decide)) (fun _ hk => hk.1.2) (.slice Ao182 t333.length co182)) (fun _ hk => hk.1.2) (.slice Ao191 t336.length co191)) (fun _ hk => hk.1.2) (.slice Ao192 t339.length co192)) (fun _ hk => hk.1.2) (.int .i64 t342)) (fun _ hk => hk.1.2) (.int .i64 t343)) (fun _ hk => hk.2) (.int .i64 t344)) (fun _ hk => hk.2) (.int .i64 t345)) (fun _ h_ => h_.1)) (fun _ h_ => h_.1))) hb); have n9_ := Aside0.mk (Kd.R_below (by (with_reducible repeat (first | apply Kd.R_alloc | apply Kd.R_drewN | apply Kd.R_drew)); exact (Kd.R_mono (Kd.R_mono (Kd.R_far (p := ⟨gb347, 1, none⟩) (Kd.R_far (p := ⟨gb347, 0, none⟩) (Kd.R_far (p := ⟨gb346, 4, none⟩) (Kd.R_far (p := ⟨gb346, 3, none⟩) (Kd.R_far (p := ⟨gb346, 2, none⟩) (Kd.R_far (p := ⟨gb346, 1, none⟩) (Kd.R_far (p := ⟨gb346, 0, none⟩) (Kd.R_types (Kd.R_types HO335.out BK346.out (by decide)) BK347.out (by decide)) (fun _ hk => hk.1.2) (.slice Ao182 t333.length co182)) (fun _ hk => hk.1.2) (.slice Ao191 t336.length co191)) (fun _ hk => hk.1.2) (.slice Ao192 t339.length co192)) (fun _ hk => hk.1.2) (.int .i64 t342)) (fun _ hk => hk.1.2) (.int .i64 t343)) (fun _ hk => hk.2) (.int .i64 t344)) (fun _ hk => hk.2) (.int .i64 t345)) (fun _ h_ => h_.1)) (fun _ h_ => h_.1))) hb); have n10_ := Aside0.mk (Kd.R_below (by (with_reducible repeat (first | apply Kd.R_alloc | apply Kd.R_drewN | apply Kd.R_drew)); exact (Kd.R_mono (Kd.R_mono (Kd.R_far (p := ⟨gb347, 1, none⟩) (Kd.R_far (p := ⟨gb347, 0, none⟩) (Kd.R_far (p := ⟨gb346, 4, none⟩) (Kd.R_far (p := ⟨gb346, 3, none⟩) (Kd.R_far (p := ⟨gb346, 2, none⟩) (Kd.R_far (p := ⟨gb346, 1, none⟩) (Kd.R_far (p := ⟨gb346, 0, none⟩) (Kd.R_types (Kd.R_types HO338.out BK346.out (by decide)) BK347.out (by decide)) (fun _ hk => hk.1.2) (.slice Ao182 t333.length co182)) (fun _ hk => hk.1.2) (.slice Ao191 t336.length co191)) (fun _ hk => hk.1.2) (.slice Ao192 t339.length co192)) (fun _ hk => hk.1.2) (.int .i64 t342)) (fun _ hk => hk.1.2) (.int .i64 t343)) (fun _ hk => hk.2) (.int .i64 t344)) (fun _ hk => hk.2) (.int .i64 t345)) (fun _ h_ => h_.1)) (fun _ h_ => h_.1))) hb); have n11_ := Aside0.mk (Kd.R_below (by (with_reducible repeat (first | apply Kd.R_alloc | apply Kd.R_drewN | apply Kd.R_drew)); exact (Kd.R_mono (Kd.R_mono (Kd.R_far (p := ⟨gb347, 1, none⟩) (Kd.R_far (p := ⟨gb347, 0, none⟩) (Kd.R_far (p := ⟨gb346, 4, none⟩) (Kd.R_far (p := ⟨gb346, 3, none⟩) (Kd.R_far (p := ⟨gb346, 2, none⟩) (Kd.R_far (p := ⟨gb346, 1, none⟩) (Kd.R_far (p := ⟨gb346, 0, none⟩) (Kd.R_types (Kd.R_types HO341.out BK346.out (by decide)) BK347.out (by decide)) (fun _ hk => hk.1.2) (.slice Ao182 t333.length co182)) (fun _ hk => hk.1.2) (.slice Ao191 t336.length co191)) (fun _ hk => hk.1.2) (.slice Ao192 t339.length co192)) (fun _ hk => hk.1.2) (.int .i64 t342)) (fun _ hk => hk.1.2) (.int .i64 t343)) (fun _ hk => hk.2) (.int .i64 t344)) (fun _ hk => hk.2) (.int .i64 t345)) (fun _ h_ => h_.1)) (fun _ h_ => h_.1))) hb); have n12_ := Aside0.mk (blk_below (g := gb242) (o := .cells #[.slice A0_0 l0_0.length c0_0, .slice A0_1 l0_1.length c0_1, .slice A0_2 l0_2.length c0_2, .int .i64 a0_3, .int .i64 a0_4] 25 (0, 0)) (by (with_reducible repeat (first | refine blk_drewN ?_ _ | refine blk_drew ?_ | refine blk_alloc ?_ _)); refine blk_far ?_ NB242_347.out _; (with_reducible repeat (first | refine blk_drewN ?_ _ | refine blk_drew ?_ | refine blk_alloc ?_ _)); refine blk_far ?_ NB242_347.out _; (with_reducible repeat (first | refine blk_drewN ?_ _ | refine blk_drew ?_ | refine blk_alloc ?_ _)); refine blk_far ?_ NB242_346.out _; (with_reducible repeat (first | refine blk_drewN ?_ _ | refine blk_drew ?_ | refine blk_alloc ?_ _)); refine blk_far ?_ NB242_346.out _; (with_reducible repeat (first | refine blk_drewN ?_ _ | refine blk_drew ?_ | refine blk_alloc ?_ _)); refine blk_far ?_ NB242_346.out _; (with_reducible repeat (first | refine blk_drewN ?_ _ | refine blk_drew ?_ | refine blk_alloc ?_ _)); refine blk_far ?_ NB242_346.out _; (with_reducible repeat (first | refine blk_drewN ?_ _ | refine blk_drew ?_ | refine blk_alloc ?_ _)); refine blk_far ?_ NB242_346.out _; (with_reducible repeat (first | refine blk_drewN ?_ _ | refine blk_drew ?_ | refine blk_alloc ?_ _)); exact BK242.out) hb); have n13_ := Aside0.mk (blk_below (g := gb268) (o := .cells #[.slice Ao22 t255.length co22, .slice Ao26 t258.length co26, .slice Ao27 t261.length co27, .int .i64 t264, .int .i64 t265] 29 (0, 0)) (by (with_reducible repeat (first | refine blk_drewN ?_ _ | refine blk_drew ?_ | refine blk_alloc ?_ _)); refine blk_far ?_ NB268_347.out _; (with_reducible repeat (first | refine blk_drewN ?_ _ | refine blk_drew ?_ | refine blk_alloc ?_ _)); refine blk_far ?_ NB268_347.out _; (with_reducible repeat (first | refine blk_drewN ?_ _ | refine blk_drew ?_ | refine blk_alloc ?_ _)); refine blk_far ?_ NB268_346.out _; (with_reducible repeat (first | refine blk_drewN ?_ _ | refine blk_drew ?_ | refine blk_alloc ?_ _)); refine blk_far ?_ NB268_346.out _; (with_reducible repeat (first | refine blk_drewN ?_ _ | refine blk_drew ?_ | refine blk_alloc ?_ _)); refine blk_far ?_ NB268_346.out _; (with_reducible repeat (first | refine blk_drewN ?_ _ | refine blk_drew ?_ | refine blk_alloc ?_ _)); refine blk_far ?_ NB268_346.out _; (with_reducible repeat (first | refine blk_drewN ?_ _ | refine blk_drew ?_ | refine blk_alloc ?_ _)); refine blk_far ?_ NB268_346.out _; (with_reducible repeat (first | refine blk_drewN ?_ _ | refine blk_drew ?_ | refine blk_alloc ?_ _)); exact BK268.out) hb); have n14_ := Aside0.mk (blk_below (g := gb269) (o := .cells #[.int .i64 t266, .int .i64 t267] 37 (0, 0)) (by (with_reducible repeat (first | refine blk_drewN ?_ _ | refine blk_drew ?_ | refine blk_alloc ?_ _)); refine blk_far ?_ NB269_347.out _; (with_reducible repeat (first | refine blk_drewN ?_ _ | refine blk_drew ?_ | refine blk_alloc ?_ _)); refine blk_far ?_ NB269_347.out _; (with_reducible repeat (first | refine blk_drewN ?_ _ | refine blk_drew ?_ | refine blk_alloc ?_ _)); refine blk_far ?_ NB269_346.out _; (with_reducible repeat (first | refine blk_drewN ?_ _ | refine blk_drew ?_ | refine blk_alloc ?_ _)); refine blk_far ?_ NB269_346.out _; (with_reducible repeat (first | refine blk_drewN ?_ _ | refine blk_drew ?_ | refine blk_alloc ?_ _)); refine blk_far ?_ NB269_346.out _; (with_reducible repeat (first | refine blk_drewN ?_ _ | refine blk_drew ?_ | refine blk_alloc ?_ _)); refine blk_far ?_ NB269_346.out _; (with_reducible repeat (first | refine blk_drewN ?_ _ | refine blk_drew ?_ | refine blk_alloc ?_ _)); refine blk_far ?_ NB269_346.out _; (with_reducible repeat (first | refine blk_drewN ?_ _ | refine blk_drew ?_ | refine blk_alloc ?_ _)); exact BK269.out) hb); have n15_ := Aside0.mk (blk_below (g := gb281) (o := .cells #[.slice Ao33 t312.length co33, .slice Ao38 t313.length co38, .slice Ao39 t314.length co39, .int .i64 t279, .int .i64 t280] 29 (0, 0)) (by (with_reducible repeat (first | refine blk_drewN ?_ _ | refine blk_drew ?_ | refine blk_alloc ?_ _)); refine blk_far ?_ NB281_347.out _; (with_reducible repeat (first | refine blk_drewN ?_ _ | refine blk_drew ?_ | refine blk_alloc ?_ _)); refine blk_far ?_ NB281_347.out _; (with_reducible repeat (first | refine blk_drewN ?_ _ | refine blk_drew ?_ | refine blk_alloc ?_ _)); refine blk_far ?_ NB281_346.out _; (with_reducible repeat (first | refine blk_drewN ?_ _ | refine blk_drew ?_ | refine blk_alloc ?_ _)); refine blk_far ?_ NB281_346.out _; (with_reducible repeat (first | refine blk_drewN ?_ _ | refine blk_drew ?_ | refine blk_alloc ?_ _)); refine blk_far ?_ NB281_346.out _; (with_reducible repeat (first | refine blk_drewN ?_ _ | refine blk_drew ?_ | refine blk_alloc ?_ _)); refine blk_far ?_ NB281_346.out _; (with_reducible repeat (first | refine blk_drewN ?_ _ | refine blk_drew ?_ | refine blk_alloc ?_ _)); refine blk_far ?_ NB281_346.out _; (with_reducible repeat (first | refine blk_drewN ?_ _ | refine blk_drew ?_ | refine blk_alloc ?_ _)); exact BK281.out) hb); have n16_ := Aside0.mk (blk_below (g := gb295) (o := .cells #[.slice Ao43 t318.length co43, .slice Ao50 t319.length co50, .slice Ao51 t320.length co51, .int .i64 t291, .int .i64 t292] 29 (0, 0)) (by (with_reducible repeat (first | refine blk_drewN ?_ _ | refine blk_drew ?_ | refine blk_alloc ?_ _)); refine blk_far ?_ NB295_347.out _; (with_reducible repeat (first | refine blk_drewN ?_ _ | refine blk_drew ?_ | refine blk_alloc ?_ _)); refine blk_far ?_ NB295_347.out _; (with_reducible repeat (first | refine blk_drewN ?_ _ | refine blk_drew ?_ | refine blk_alloc ?_ _)); refine blk_far ?_ NB295_346.out _; (with_reducible repeat (first | refine blk_drewN ?_ _ | refine blk_drew ?_ | refine blk_alloc ?_ _)); refine blk_far ?_ NB295_346.out _; (with_reducible repeat (first | refine blk_drewN ?_ _ | refine blk_drew ?_ | refine blk_alloc ?_ _)); refine blk_far ?_ NB295_346.out _; (with_reducible repeat (first | refine blk_drewN ?_ _ | refine blk_drew ?_ | refine blk_alloc ?_ _)); refine blk_far ?_ NB295_346.out _; (with_reducible repeat (first | refine blk_drewN ?_ _ | refine blk_drew ?_ | refine blk_alloc ?_ _)); refine blk_far ?_ NB295_346.out _; (with_reducible repeat (first | refine blk_drewN ?_ _ | refine blk_drew ?_ | refine blk_alloc ?_ _)); exact BK295.out) hb); have n17_ := Aside0.mk (blk_below (g := gb296) (o := .cells #[.int .i64 t293, .int .i64 t294] 37 (0, 0)) (by (with_reducible repeat (first | refine blk_drewN ?_ _ | refine blk_drew ?_ | refine blk_alloc ?_ _)); refine blk_far ?_ NB296_347.out _; (with_reducible repeat (first | refine blk_drewN ?_ _ | refine blk_drew ?_ | refine blk_alloc ?_ _)); refine blk_far ?_ NB296_347.out _; (with_reducible repeat (first | refine blk_drewN ?_ _ | refine blk_drew ?_ | refine blk_alloc ?_ _)); refine blk_far ?_ NB296_346.out _; (with_reducible repeat (first | refine blk_drewN ?_ _ | refine blk_drew ?_ | refine blk_alloc ?_ _)); refine blk_far ?_ NB296_346.out _; (with_reducible repeat (first | refine blk_drewN ?_ _ | refine blk_drew ?_ | refine blk_alloc ?_ _)); refine blk_far ?_ NB296_346.out _; (with_reducible repeat (first | refine blk_drewN ?_ _ | refine blk_drew ?_ | refine blk_alloc ?_ _)); refine blk_far ?_ NB296_346.out _; (with_reducible repeat (first | refine blk_drewN ?_ _ | refine blk_drew ?_ | refine blk_alloc ?_ _)); refine blk_far ?_ NB296_346.out _; (with_reducible repeat (first | refine blk_drewN ?_ _ | refine blk_drew ?_ | refine blk_alloc ?_ _)); exact BK296.out) hb); have n18_ := Aside0.mk (blk_below (g := gb346) (o := .cells #[.slice Ao182 t333.length co182, .slice Ao191 t336.length co191, .slice Ao192 t339.length co192, .int .i64 t342, .int .i64 t343] 29 (0, 0)) (by (with_reducible repeat (first | refine blk_drewN ?_ _ | refine blk_drew ?_ | refine blk_alloc ?_ _)); refine blk_far ?_ NB346_347.out _; (with_reducible repeat (first | refine blk_drewN ?_ _ | refine blk_drew ?_ | refine blk_alloc ?_ _)); refine blk_far ?_ NB346_347.out _; (with_reducible repeat (first | refine blk_drewN ?_ _ | refine blk_drew ?_ | refine blk_alloc ?_ _)); refine blk_put (cs := #[.slice Ao182 t333.length co182, .slice Ao191 t336.length co191, .slice Ao192 t339.length co192, .int .i64 t342, .int .i64 0]) ?_ 4 _ rfl; (with_reducible repeat (first | refine blk_drewN ?_ _ | refine blk_drew ?_ | refine blk_alloc ?_ _)); refine blk_put (cs := #[.slice Ao182 t333.length co182, .slice Ao191 t336.length co191, .slice Ao192 t339.length co192, .int .i64 0, .int .i64 0]) ?_ 3 _ rfl; (with_reducible repeat (first | refine blk_drewN ?_ _ | refine blk_drew ?_ | refine blk_alloc ?_ _)); refine blk_put (cs := #[.slice Ao182 t333.length co182, .slice Ao191 t336.length co191, .slice none 0 0, .int .i64 0, .int .i64 0]) ?_ 2 _ rfl; (with_reducible repeat (first | refine blk_drewN ?_ _ | refine blk_drew ?_ | refine blk_alloc ?_ _)); refine blk_put (cs := #[.slice Ao182 t333.length co182, .slice none 0 0, .slice none 0 0, .int .i64 0, .int .i64 0]) ?_ 1 _ rfl; (with_reducible repeat (first | refine blk_drewN ?_ _ | refine blk_drew ?_ | refine blk_alloc ?_ _)); refine blk_put (cs := #[.slice none 0 0, .slice none 0 0, .slice none 0 0, .int .i64 0, .int .i64 0]) ?_ 0 _ rfl; (with_reducible repeat (first | refine blk_drewN ?_ _ | refine blk_drew ?_ | refine blk_alloc ?_ _)); exact BK346.out) hb); have n19_ := Aside0.mk (blk_below (g := gb347) (o := .cells #[.int .i64 t344, .int .i64 t345] 37 (0, 0)) (by (with_reducible repeat (first | refine blk_drewN ?_ _ | refine blk_drew ?_ | refine blk_alloc ?_ _)); refine blk_put (cs := #[.int .i64 t344, .int .i64 0]) ?_ 1 _ rfl; (with_reducible repeat (first | refine blk_drewN ?_ _ | refine blk_drew ?_ | refine blk_alloc ?_ _)); refine blk_put (cs := #[.int .i64 0, .int .i64 0]) ?_ 0 _ rfl; (with_reducible repeat (first | refine blk_drewN ?_ _ | refine blk_drew ?_ | refine blk_alloc ?_ _)); refine blk_far ?_ NB347_346.out _; (with_reducible repeat (first | refine blk_drewN ?_ _ | refine blk_drew ?_ | refine blk_alloc ?_ _)); refine blk_far ?_ NB347_346.out _; (with_reducible repeat (first | refine blk_drewN ?_ _ | refine blk_drew ?_ | refine blk_alloc ?_ _)); refine blk_far ?_ NB347_346.out _; (with_reducible repeat (first | refine blk_drewN ?_ _ | refine blk_drew ?_ | refine blk_alloc ?_ _)); refine blk_far ?_ NB347_346.out _; (with_reducible repeat (first | refine blk_drewN ?_ _ | refine blk_drew ?_ | refine blk_alloc ?_ _)); refine blk_far ?_ NB347_346.out _; (with_reducible repeat (first | refine blk_drewN ?_ _ | refine blk_drew ?_ | refine blk_alloc ?_ _)); exact BK347.out) hb); have n20_ := Aside0.mk (below_step (by repeat (first | (with_reducible first | exact HB.out | apply below_alloc | apply pw_below_drewN | apply below_drew1 | refine below_set ?_ GE242.out | refine below_set ?_ GE268.out | refine below_set ?_ GE269.out | refine below_set ?_ GE281.out | refine below_set ?_ GE295.out | refine below_set ?_ GE296.out | refine below_set ?_ GE346.out | refine below_set ?_ GE347.out) | exact HB.out)) hb); clear HO_269000; clear HO_269001; clear HO_269002; clear HO_282000; clear HO_282001; clear HO_282002; clear HO_296000; clear HO_296001; clear HO_296002; clear HO335; clear HO338; clear HO341; clear BK242; clear BK268; clear BK269; clear BK281; clear BK295; clear BK296; clear BK346; clear BK347; clear HB; have HO_269000 := n0_; have HO_269001 := n1_; have HO_269002 := n2_; have HO_282000 := n3_; have HO_282001 := n4_; have HO_282002 := n5_; have HO_296000 := n6_; have HO_296001 := n7_; have HO_296002 := n8_; have HO335 := n9_; have HO338 := n10_; have HO341 := n11_; have BK242 := n12_; have BK268 := n13_; have BK269 := n14_; have BK281 := n15_; have BK295 := n16_; have BK296 := n17_; have BK346 := n18_; have BK347 := n19_; have HB := n20_; clear n0_ n1_ n2_ n3_ n4_ n5_ n6_ n7_ n8_ n9_ n10_ n11_ n12_ n13_ n14_ n15_ n16_ n17_ n18_ n19_ n20_; (try clear hb); (try clear hb2); (try clear hk); (try clear hi)))
        go_meet
        case rel => exact ⟨_, (true), (by first | rfl | (simp; done) | (simp [*]; done)), H', ⟨by have := HJ3.out; have := HJ12.out; have := HJ91.out; have := HJ95.out; have := HJ104.out; have := HJ148.out; have := HJ152.out; have := HJ163.out; first | omega | exact Nat.le_refl _⟩, ⟨by (try simp only [hl282000_104]); (try simp only [hl282001_104]); (try simp only [hl282002_104]); (try simp only [hl296000_152]); (try simp only [hl296001_152]); (try simp only [hl296002_152]); (with_reducible repeat (first | apply Kd.R_alloc | apply Kd.R_drewN | apply Kd.R_drew)); exact Kd.R_mono HO_269000.out (fun _ hk => ⟨hk.1.1.1, ⟨hk.1.1.2, hk.2⟩⟩)⟩, ⟨by (try simp only [hl282000_104]); (try simp only [hl282001_104]); (try simp only [hl282002_104]); (try simp only [hl296000_152]); (try simp only [hl296001_152]); (try simp only [hl296002_152]); (with_reducible repeat (first | apply Kd.R_alloc | apply Kd.R_drewN | apply Kd.R_drew)); exact Kd.R_mono HO_269001.out (fun _ hk => ⟨hk.1.1.1.1.1, ⟨hk.1.1.1.1.2.1, ⟨hk.1.1.1.1.2.2.1, ⟨hk.1.1.1.1.2.2.2.1, ⟨hk.1.1.1.1.2.2.2.2, ⟨hk.1.2, hk.2⟩⟩⟩⟩⟩⟩)⟩, ⟨by (try simp only [hl282000_104]); (try simp only [hl282001_104]); (try simp only [hl282002_104]); (try simp only [hl296000_152]); (try simp only [hl296001_152]); (try simp only [hl296002_152]); (with_reducible repeat (first | apply Kd.R_alloc | apply Kd.R_drewN | apply Kd.R_drew)); exact Kd.R_mono HO_269002.out (fun _ hk => ⟨hk.1.1.1.1.1, ⟨hk.1.1.1.1.2.1, ⟨hk.1.1.1.1.2.2.1, ⟨hk.1.1.1.1.2.2.2.1, ⟨hk.1.1.1.1.2.2.2.2, ⟨hk.1.2, hk.2⟩⟩⟩⟩⟩⟩)⟩, ⟨by (try simp only [hl282000_104]); (try simp only [hl282001_104]); (try simp only [hl282002_104]); (try simp only [hl296000_152]); (try simp only [hl296001_152]); (try simp only [hl296002_152]); (with_reducible repeat (first | apply Kd.R_alloc | apply Kd.R_drewN | apply Kd.R_drew)); exact Kd.R_mono HO_282000.out (fun _ hk => ⟨hk.1.1.1, ⟨hk.1.1.2, hk.2⟩⟩)⟩, ⟨by (try simp only [hl282000_104]); (try simp only [hl282001_104]); (try simp only [hl282002_104]); (try simp only [hl296000_152]); (try simp only [hl296001_152]); (try simp only [hl296002_152]); (with_reducible repeat (first | apply Kd.R_alloc | apply Kd.R_drewN | apply Kd.R_drew)); exact Kd.R_mono HO_282001.out (fun _ hk => ⟨hk.1.1.1.1.1, ⟨hk.1.1.1.1.2.1, ⟨hk.1.1.1.1.2.2.1, ⟨hk.1.1.1.1.2.2.2.1, ⟨hk.1.1.1.1.2.2.2.2, ⟨hk.1.2, hk.2⟩⟩⟩⟩⟩⟩)⟩, ⟨by (try simp only [hl282000_104]); (try simp only [hl282001_104]); (try simp only [hl282002_104]); (try simp only [hl296000_152]); (try simp only [hl296001_152]); (try simp only [hl296002_152]); (with_reducible repeat (first | apply Kd.R_alloc | apply Kd.R_drewN | apply Kd.R_drew)); exact Kd.R_mono HO_282002.out (fun _ hk => ⟨hk.1.1.1.1.1, ⟨hk.1.1.1.1.2.1, ⟨hk.1.1.1.1.2.2.1, ⟨hk.1.1.1.1.2.2.2.1, ⟨hk.1.1.1.1.2.2.2.2, ⟨hk.1.2, hk.2⟩⟩⟩⟩⟩⟩)⟩, ⟨by (try simp only [hl282000_104]); (try simp only [hl282001_104]); (try simp only [hl282002_104]); (try simp only [hl296000_152]); (try simp only [hl296001_152]); (try simp only [hl296002_152]); (with_reducible repeat (first | apply Kd.R_alloc | apply Kd.R_drewN | apply Kd.R_drew)); exact Kd.R_mono HO_296000.out (fun _ hk => ⟨hk.1.1.1, ⟨hk.1.1.2, hk.2⟩⟩)⟩, ⟨by (try simp only [hl282000_104]); (try simp only [hl282001_104]); (try simp only [hl282002_104]); (try simp only [hl296000_152]); (try simp only [hl296001_152]); (try simp only [hl296002_152]); (with_reducible repeat (first | apply Kd.R_alloc | apply Kd.R_drewN | apply Kd.R_drew)); exact Kd.R_mono HO_296001.out (fun _ hk => ⟨hk.1.1.1.1.1, ⟨hk.1.1.1.1.2.1, ⟨hk.1.1.1.1.2.2.1, ⟨hk.1.1.1.1.2.2.2.1, ⟨hk.1.1.1.1.2.2.2.2, ⟨hk.1.2, hk.2⟩⟩⟩⟩⟩⟩)⟩, ⟨by (try simp only [hl282000_104]); (try simp only [hl282001_104]); (try simp only [hl282002_104]); (try simp only [hl296000_152]); (try simp only [hl296001_152]); (try simp only [hl296002_152]); (with_reducible repeat (first | apply Kd.R_alloc | apply Kd.R_drewN | apply Kd.R_drew)); exact Kd.R_mono HO_296002.out (fun _ hk => ⟨hk.1.1.1.1.1, ⟨hk.1.1.1.1.2.1, ⟨hk.1.1.1.1.2.2.1, ⟨hk.1.1.1.1.2.2.2.1, ⟨hk.1.1.1.1.2.2.2.2, ⟨hk.1.2, hk.2⟩⟩⟩⟩⟩⟩)⟩, ⟨by (try simp only [hl282000_104]); (try simp only [hl282001_104]); (try simp only [hl282002_104]); (try simp only [hl296000_152]); (try simp only [hl296001_152]); (try simp only [hl296002_152]); (with_reducible repeat (first | apply Kd.R_alloc | apply Kd.R_drewN | apply Kd.R_drew)); exact Kd.R_mono HO335.out (fun _ hk => ⟨hk.1.1.1.2, ⟨hk.1.1.2, hk.1.2⟩⟩)⟩, ⟨by (try simp only [hl282000_104]); (try simp only [hl282001_104]); (try simp only [hl282002_104]); (try simp only [hl296000_152]); (try simp only [hl296001_152]); (try simp only [hl296002_152]); (with_reducible repeat (first | apply Kd.R_alloc | apply Kd.R_drewN | apply Kd.R_drew)); exact Kd.R_mono HO338.out (fun _ hk => ⟨hk.1.1.1.1.1.1.1.2, ⟨hk.1.1.1.1.1.1.2, ⟨hk.1.1.1.1.1.2, ⟨hk.1.1.1.1.2, ⟨hk.1.1.1.2, ⟨hk.1.1.2, hk.1.1.1.1.1.1.1.1⟩⟩⟩⟩⟩⟩)⟩, ⟨by (try simp only [hl282000_104]); (try simp only [hl282001_104]); (try simp only [hl282002_104]); (try simp only [hl296000_152]); (try simp only [hl296001_152]); (try simp only [hl296002_152]); (with_reducible repeat (first | apply Kd.R_alloc | apply Kd.R_drewN | apply Kd.R_drew)); exact Kd.R_mono HO341.out (fun _ hk => ⟨hk.1.1.1.1.1.1.1.2, ⟨hk.1.1.1.1.1.1.2, ⟨hk.1.1.1.1.1.2, ⟨hk.1.1.1.1.2, ⟨hk.1.1.1.2, ⟨hk.1.1.2, hk.1.1.1.1.1.1.1.1⟩⟩⟩⟩⟩⟩)⟩, ⟨by (try simp only [hl282000_104]); (try simp only [hl282001_104]); (try simp only [hl282002_104]); (try simp only [hl296000_152]); (try simp only [hl296001_152]); (try simp only [hl296002_152]); (with_reducible repeat (first | refine blk_drewN ?_ _ | refine blk_drew ?_ | refine blk_alloc ?_ _)); exact BK242.out⟩, ⟨by (try simp only [hl282000_104]); (try simp only [hl282001_104]); (try simp only [hl282002_104]); (try simp only [hl296000_152]); (try simp only [hl296001_152]); (try simp only [hl296002_152]); (with_reducible repeat (first | refine blk_drewN ?_ _ | refine blk_drew ?_ | refine blk_alloc ?_ _)); exact BK268.out⟩, ⟨by (try simp only [hl282000_104]); (try simp only [hl282001_104]); (try simp only [hl282002_104]); (try simp only [hl296000_152]); (try simp only [hl296001_152]); (try simp only [hl296002_152]); (with_reducible repeat (first | refine blk_drewN ?_ _ | refine blk_drew ?_ | refine blk_alloc ?_ _)); exact BK269.out⟩, ⟨by (try simp only [hl282000_104]); (try simp only [hl282001_104]); (try simp only [hl282002_104]); (try simp only [hl296000_152]); (try simp only [hl296001_152]); (try simp only [hl296002_152]); (with_reducible repeat (first | refine blk_drewN ?_ _ | refine blk_drew ?_ | refine blk_alloc ?_ _)); exact BK281.out⟩, ⟨by (try simp only [hl282000_104]); (try simp only [hl282001_104]); (try simp only [hl282002_104]); (try simp only [hl296000_152]); (try simp only [hl296001_152]); (try simp only [hl296002_152]); (with_reducible repeat (first | refine blk_drewN ?_ _ | refine blk_drew ?_ | refine blk_alloc ?_ _)); exact BK295.out⟩, ⟨by (try simp only [hl282000_104]); (try simp only [hl282001_104]); (try simp only [hl282002_104]); (try simp only [hl296000_152]); (try simp only [hl296001_152]); (try simp only [hl296002_152]); (with_reducible repeat (first | refine blk_drewN ?_ _ | refine blk_drew ?_ | refine blk_alloc ?_ _)); exact BK296.out⟩, ⟨by (try simp only [hl282000_104]); (try simp only [hl282001_104]); (try simp only [hl282002_104]); (try simp only [hl296000_152]); (try simp only [hl296001_152]); (try simp only [hl296002_152]); (with_reducible repeat (first | refine blk_drewN ?_ _ | refine blk_drew ?_ | refine blk_alloc ?_ _)); exact BK346.out⟩, ⟨by (try simp only [hl282000_104]); (try simp only [hl282001_104]); (try simp only [hl282002_104]); (try simp only [hl296000_152]); (try simp only [hl296001_152]); (try simp only [hl296002_152]); (with_reducible repeat (first | refine blk_drewN ?_ _ | refine blk_drew ?_ | refine blk_alloc ?_ _)); exact BK347.out⟩, ⟨by repeat (first | (with_reducible first | exact HB.out | apply below_alloc | apply pw_below_drewN | apply below_drew1 | refine below_set ?_ GE242.out | refine below_set ?_ GE268.out | refine below_set ?_ GE269.out | refine below_set ?_ GE281.out | refine below_set ?_ GE295.out | refine below_set ?_ GE296.out | refine below_set ?_ GE346.out | refine below_set ?_ GE347.out) | exact HB.out)⟩⟩
      case rest =>
       clear HC168
       try clear c1
       try clear c2
       try clear p2
       try clear c3
       try clear c4
       try clear c5
       try clear c6
       try clear c7
       try clear c8
       try clear c8b0
       try clear c9
       try clear c10
       try clear c11
       try clear c12
       try clear c13
       try clear c14
       try clear c15
       try clear c16
       try clear c17
       try clear c18
       try clear c19
       try clear c20
       try clear c21
       try clear c22
       try clear c23
       try clear c24
       try clear c28
       try clear c34
       try clear c35
       try clear c36
       try clear c44
       try clear c45
       try clear c46
       try clear c47
       try clear c48
       try clear c52
       try clear c53
       try clear c54
       try clear c55
       try clear c58
       try clear c60
       try clear c61
       try clear c62
       try clear c63
       try clear c64
       try clear c66
       try clear c67
       try clear c68
       try clear c69
       try clear c72
       try clear c73
       try clear c74
       try clear c76
       try clear c77
       try clear c80
       try clear c81
       try clear c82
       try clear c83
       try clear c84
       try clear c86
       try clear c87
       try clear c88
       try clear c89
       try clear c93
       try clear c103
       try clear c106
       try clear c107
       try clear c108
       try clear c109
       try clear c110
       try clear c113
       try clear c113b0
       try clear c115
       try clear c117
       try clear c118
       try clear c119
       try clear c120
       try clear c121
       try clear c123
       try clear c124
       try clear c125
       try clear c126
       try clear c129
       try clear c130
       try clear c131
       try clear c133
       try clear c134
       try clear c137
       try clear c138
       try clear c139
       try clear c140
       try clear c141
       try clear c143
       try clear c144
       try clear c145
       try clear c146
       try clear c150
       try clear c154
       try clear c155
       try clear c156
       try clear c157
       try clear c158
       try clear c163
       try clear c163b0
       try clear c165
       try clear c165b0
       try clear c165b1
       try clear c169
       try clear c170
       try clear c171
       try clear c172
       try clear c173
       try clear c183
       try clear c184
       try clear c185
       try clear c186
       try clear c187
       try clear c188
       try clear c189
       try clear c193
       try clear c194
       try clear c195
       try clear c196
       try clear c197
       try clear c198
       try clear c201
       try clear c203
       try clear c204
       try clear c205
       try clear c206
       try clear c207
       try clear c208
       try clear c209
       try clear c211
       try clear c212
       try clear c213
       try clear c214
       try clear c215
       try clear c216
       try clear c219
       try clear c220
       try clear c221
       try clear c222
       try clear c223
       try clear c225
       try clear c226
       try clear c227
       try clear c228
       try clear c231
       try clear c232
       try clear c233
       try clear c234
       try clear c235
       try clear c236
       try clear c237
       try clear c239
       try clear c240
       try clear c241
       try clear c242
       try clear c243
       try clear c244
       try clear hcz111_0
       try clear hcz111_1
       try clear hcz111_2
       try clear hcz111_3
       try clear hcz111_4
       try clear hcz122_0
       try clear hcz122_1
       try clear hcz122_2
       try clear hcz122_3
       try clear hcz122_4
       try clear hcz127_0
       try clear hcz127_1
       try clear hcz127_2
       try clear hcz127_3
       try clear hcz127_4
       try clear hcz132_0
       try clear hcz132_1
       try clear hcz135_0
       try clear hcz135_1
       try clear hcz142_0
       try clear hcz142_1
       try clear hcz142_2
       try clear hcz142_3
       try clear hcz142_4
       try clear hcz147_0
       try clear hcz147_1
       try clear hcz147_2
       try clear hcz147_3
       try clear hcz147_4
       try clear hcz14_0
       try clear hcz14_1
       try clear hcz14_2
       try clear hcz14_3
       try clear hcz14_4
       try clear hcz159_0
       try clear hcz159_1
       try clear hcz159_2
       try clear hcz159_3
       try clear hcz159_4
       try clear hcz161_0
       try clear hcz161_1
       try clear hcz161_2
       try clear hcz161_3
       try clear hcz161_4
       try clear hcz174_0
       try clear hcz174_1
       try clear hcz174_2
       try clear hcz174_3
       try clear hcz174_4
       try clear hcz190_0
       try clear hcz190_1
       try clear hcz190_2
       try clear hcz190_3
       try clear hcz190_4
       try clear hcz199_0
       try clear hcz199_1
       try clear hcz210_0
       try clear hcz210_1
       try clear hcz210_2
       try clear hcz210_3
       try clear hcz210_4
       try clear hcz217_0
       try clear hcz217_1
       try clear hcz217_2
       try clear hcz217_3
       try clear hcz217_4
       try clear hcz224_0
       try clear hcz224_1
       try clear hcz229_0
       try clear hcz229_1
       try clear hcz238_0
       try clear hcz238_1
       try clear hcz238_2
       try clear hcz238_3
       try clear hcz238_4
       try clear hcz245_0
       try clear hcz245_1
       try clear hcz245_2
       try clear hcz245_3
       try clear hcz245_4
       try clear hcz25_0
       try clear hcz25_1
       try clear hcz25_2
       try clear hcz25_3
       try clear hcz25_4
       try clear hcz29_0
       try clear hcz29_1
       try clear hcz30_0
       try clear hcz30_1
       try clear hcz30_2
       try clear hcz30_3
       try clear hcz30_4
       try clear hcz37_0
       try clear hcz37_1
       try clear hcz37_2
       try clear hcz37_3
       try clear hcz37_4
       try clear hcz49_0
       try clear hcz49_1
       try clear hcz49_2
       try clear hcz49_3
       try clear hcz49_4
       try clear hcz56_0
       try clear hcz56_1
       try clear hcz65_0
       try clear hcz65_1
       try clear hcz65_2
       try clear hcz65_3
       try clear hcz65_4
       try clear hcz6_0
       try clear hcz6_1
       try clear hcz6_2
       try clear hcz6_3
       try clear hcz6_4
       try clear hcz70_0
       try clear hcz70_1
       try clear hcz70_2
       try clear hcz70_3
       try clear hcz70_4
       try clear hcz75_0
       try clear hcz75_1
       try clear hcz78_0
       try clear hcz78_1
       try clear hcz85_0
       try clear hcz85_1
       try clear hcz85_2
       try clear hcz85_3
       try clear hcz85_4
       try clear hcz90_0
       try clear hcz90_1
       try clear hcz90_2
       try clear hcz90_3
       try clear hcz90_4
       try clear hfz111_0
       try clear hfz111_1
       try clear hfz111_2
       try clear hfz111_3
       try clear hfz111_4
       try clear hfz122_0
       try clear hfz122_1
       try clear hfz122_2
       try clear hfz122_3
       try clear hfz122_4
       try clear hfz127_0
       try clear hfz127_1
       try clear hfz127_2
       try clear hfz127_3
       try clear hfz127_4
       try clear hfz132_0
       try clear hfz132_1
       try clear hfz135_0
       try clear hfz135_1
       try clear hfz142_0
       try clear hfz142_1
       try clear hfz142_2
       try clear hfz142_3
       try clear hfz142_4
       try clear hfz147_0
       try clear hfz147_1
       try clear hfz147_2
       try clear hfz147_3
       try clear hfz147_4
       try clear hfz14_0
       try clear hfz14_1
       try clear hfz14_2
       try clear hfz14_3
       try clear hfz14_4
       try clear hfz159_0
       try clear hfz159_1
       try clear hfz159_2
       try clear hfz159_3
       try clear hfz159_4
       try clear hfz161_0
       try clear hfz161_1
       try clear hfz161_2
       try clear hfz161_3
       try clear hfz161_4
       try clear hfz174_0
       try clear hfz174_1
       try clear hfz174_2
       try clear hfz174_3
       try clear hfz174_4
       try clear hfz190_0
       try clear hfz190_1
       try clear hfz190_2
       try clear hfz190_3
       try clear hfz190_4
       try clear hfz199_0
       try clear hfz199_1
       try clear hfz210_0
       try clear hfz210_1
       try clear hfz210_2
       try clear hfz210_3
       try clear hfz210_4
       try clear hfz217_0
       try clear hfz217_1
       try clear hfz217_2
       try clear hfz217_3
       try clear hfz217_4
       try clear hfz224_0
       try clear hfz224_1
       try clear hfz229_0
       try clear hfz229_1
       try clear hfz238_0
       try clear hfz238_1
       try clear hfz238_2
       try clear hfz238_3
       try clear hfz238_4
       try clear hfz245_0
       try clear hfz245_1
       try clear hfz245_2
       try clear hfz245_3
       try clear hfz245_4
       try clear hfz25_0
       try clear hfz25_1
       try clear hfz25_2
       try clear hfz25_3
       try clear hfz25_4
       try clear hfz29_0
       try clear hfz29_1
       try clear hfz30_0
       try clear hfz30_1
       try clear hfz30_2
       try clear hfz30_3
       try clear hfz30_4
       try clear hfz37_0
       try clear hfz37_1
       try clear hfz37_2
       try clear hfz37_3
       try clear hfz37_4
       try clear hfz49_0
       try clear hfz49_1
       try clear hfz49_2
       try clear hfz49_3
       try clear hfz49_4
       try clear hfz56_0
       try clear hfz56_1
       try clear hfz65_0
       try clear hfz65_1
       try clear hfz65_2
       try clear hfz65_3
       try clear hfz65_4
       try clear hfz6_0
       try clear hfz6_1
       try clear hfz6_2
       try clear hfz6_3
       try clear hfz6_4
       try clear hfz70_0
       try clear hfz70_1
       try clear hfz70_2
       try clear hfz70_3
       try clear hfz70_4
       try clear hfz75_0
       try clear hfz75_1
       try clear hfz78_0
       try clear hfz78_1
       try clear hfz85_0
       try clear hfz85_1
       try clear hfz85_2
       try clear hfz85_3
       try clear hfz85_4
       try clear hfz90_0
       try clear hfz90_1
       try clear hfz90_2
       try clear hfz90_3
       try clear hfz90_4
       try clear p2
       obtain ⟨kq, x95_167, rfl, HA, HJ167, HO_269000, HO_269001, HO_269002, HO_282000, HO_282001, HO_282002, HO_296000, HO_296001, HO_296002, HO_347000, HO_347001, HO_347002, BK242, BK268, BK269, BK281, BK295, BK296, BK346, BK347, HB⟩ := hcut
       cases kq with
       | zero => exact absurd HA.out (by simp [laws_FnExactFresh.j8])
       | succ kj167 =>
        have H := HA.out
        clear HA
        simp only [laws_FnExactFresh.j8] at H
        have HC247 := Aside0.mk H
        clear H
        go_upto_if 95 with (fail)
        go_cut [] (fun wc => ∃ (kq : Nat), Aside0 (laws_FnExactFresh.j9 kq t317 t318 t319 t320 t291 t292 = some r) ∧ Aside0 (kq ≤ kj167) ∧ Aside0 (Kd.R k96 96 wc w.heap.size (fun _ => True) (.slice Ao43 t318.length co43) t318) ∧ Aside0 (Kd.R (Kd.int .i64) 3 wc w.heap.size (fun k_ => some k_ ≠ ((.slice Ao51 t320.length co51) : Value).ownBlock) (.slice Ao50 t319.length co50) t319) ∧ Aside0 (Kd.R (Kd.int .i64) 3 wc w.heap.size (fun k_ => some k_ ≠ ((.slice Ao50 t319.length co50) : Value).ownBlock) (.slice Ao51 t320.length co51) t320) ∧ Aside0 (wc.heap[gb295]? = some (.cells #[(.slice Ao43 t318.length co43), (.slice Ao50 t319.length co50), (.slice Ao51 t320.length co51), .int .i64 t291, .int .i64 t292] 29 (0, 0))) ∧ Aside0 (Below w.heap.size w wc))
        case first =>
         have H := HC247.out
         clear HC247
         by_cases c248 : x95_167 = true
         ·
          subst c248
          have H1 : (some false) = some r := by rw [if_pos rfl] at H; exact H
          clear H
          have H := H1
          clear H1
          obtain rfl := Option.some.inj H
          go_wp2
          go_ret
          exact ⟨by first | rfl | (simp [errW_none, errW_some] <;> rfl) | (simp [*, errW_none, errW_some] <;> rfl), by repeat (first | (with_reducible first | exact HB.out | apply below_alloc | apply pw_below_drewN | apply below_drew1 | refine below_set ?_ GE242.out | refine below_set ?_ GE268.out | refine below_set ?_ GE269.out | refine below_set ?_ GE281.out | refine below_set ?_ GE295.out | refine below_set ?_ GE296.out | refine below_set ?_ GE346.out | refine below_set ?_ GE347.out) | exact HB.out)⟩
         ·
          replace c248 := Bool.eq_false_iff.mpr c248
          subst c248
          have H1 : (laws_FnExactFresh.j9 kj167 t317 t318 t319 t320 t291 t292) = some r := by rw [if_neg (show ¬ (false = true) by decide)] at H; exact H
          clear H
          have H := H1
          clear H1
          have H' := Aside0.mk H
          clear H
          go_wp2
          go_meet
          case rel => exact ⟨_, H', ⟨by have := HJ3.out; have := HJ12.out; have := HJ91.out; have := HJ95.out; have := HJ104.out; have := HJ148.out; have := HJ152.out; have := HJ163.out; have := HJ167.out; first | omega | exact Nat.le_refl _⟩, ⟨by (try simp only [hl282000_104]); (try simp only [hl282001_104]); (try simp only [hl282002_104]); (try simp only [hl296000_152]); (try simp only [hl296001_152]); (try simp only [hl296002_152]); (with_reducible repeat (first | apply Kd.R_alloc | apply Kd.R_drewN | apply Kd.R_drew)); exact Kd.R_mono HO_296000.out (fun _ hk => trivial)⟩, ⟨by (try simp only [hl282000_104]); (try simp only [hl282001_104]); (try simp only [hl282002_104]); (try simp only [hl296000_152]); (try simp only [hl296001_152]); (try simp only [hl296002_152]); (with_reducible repeat (first | apply Kd.R_alloc | apply Kd.R_drewN | apply Kd.R_drew)); exact Kd.R_mono HO_296001.out (fun _ hk => hk.2.2.2.2.1)⟩, ⟨by (try simp only [hl282000_104]); (try simp only [hl282001_104]); (try simp only [hl282002_104]); (try simp only [hl296000_152]); (try simp only [hl296001_152]); (try simp only [hl296002_152]); (with_reducible repeat (first | apply Kd.R_alloc | apply Kd.R_drewN | apply Kd.R_drew)); exact Kd.R_mono HO_296002.out (fun _ hk => hk.2.2.2.2.1)⟩, ⟨by (try simp only [hl282000_104]); (try simp only [hl282001_104]); (try simp only [hl282002_104]); (try simp only [hl296000_152]); (try simp only [hl296001_152]); (try simp only [hl296002_152]); (with_reducible repeat (first | refine blk_drewN ?_ _ | refine blk_drew ?_ | refine blk_alloc ?_ _)); exact BK295.out⟩, ⟨by repeat (first | (with_reducible first | exact HB.out | apply below_alloc | apply pw_below_drewN | apply below_drew1 | refine below_set ?_ GE242.out | refine below_set ?_ GE268.out | refine below_set ?_ GE269.out | refine below_set ?_ GE281.out | refine below_set ?_ GE295.out | refine below_set ?_ GE296.out | refine below_set ?_ GE346.out | refine below_set ?_ GE347.out) | exact HB.out)⟩⟩
        case rest =>
         clear HC247
         try clear c1
         try clear c2
         try clear p2
         try clear c3
         try clear c4
         try clear c5
         try clear c6
         try clear c7
         try clear c8
         try clear c8b0
         try clear c9
         try clear c10
         try clear c11
         try clear c12
         try clear c13
         try clear c14
         try clear c15
         try clear c16
         try clear c17
         try clear c18
         try clear c19
         try clear c20
         try clear c21
         try clear c22
         try clear c23
         try clear c24
         try clear c28
         try clear c34
         try clear c35
         try clear c36
         try clear c44
         try clear c45
         try clear c46
         try clear c47
         try clear c48
         try clear c52
         try clear c53
         try clear c54
         try clear c55
         try clear c58
         try clear c60
         try clear c61
         try clear c62
         try clear c63
         try clear c64
         try clear c66
         try clear c67
         try clear c68
         try clear c69
         try clear c72
         try clear c73
         try clear c74
         try clear c76
         try clear c77
         try clear c80
         try clear c81
         try clear c82
         try clear c83
         try clear c84
         try clear c86
         try clear c87
         try clear c88
         try clear c89
         try clear c93
         try clear c103
         try clear c106
         try clear c107
         try clear c108
         try clear c109
         try clear c110
         try clear c113
         try clear c113b0
         try clear c115
         try clear c117
         try clear c118
         try clear c119
         try clear c120
         try clear c121
         try clear c123
         try clear c124
         try clear c125
         try clear c126
         try clear c129
         try clear c130
         try clear c131
         try clear c133
         try clear c134
         try clear c137
         try clear c138
         try clear c139
         try clear c140
         try clear c141
         try clear c143
         try clear c144
         try clear c145
         try clear c146
         try clear c150
         try clear c154
         try clear c155
         try clear c156
         try clear c157
         try clear c158
         try clear c163
         try clear c163b0
         try clear c165
         try clear c165b0
         try clear c165b1
         try clear c169
         try clear c170
         try clear c171
         try clear c172
         try clear c173
         try clear c183
         try clear c184
         try clear c185
         try clear c186
         try clear c187
         try clear c188
         try clear c189
         try clear c193
         try clear c194
         try clear c195
         try clear c196
         try clear c197
         try clear c198
         try clear c201
         try clear c203
         try clear c204
         try clear c205
         try clear c206
         try clear c207
         try clear c208
         try clear c209
         try clear c211
         try clear c212
         try clear c213
         try clear c214
         try clear c215
         try clear c216
         try clear c219
         try clear c220
         try clear c221
         try clear c222
         try clear c223
         try clear c225
         try clear c226
         try clear c227
         try clear c228
         try clear c231
         try clear c232
         try clear c233
         try clear c234
         try clear c235
         try clear c236
         try clear c237
         try clear c239
         try clear c240
         try clear c241
         try clear c242
         try clear c243
         try clear c244
         try clear c248
         try clear hcz111_0
         try clear hcz111_1
         try clear hcz111_2
         try clear hcz111_3
         try clear hcz111_4
         try clear hcz122_0
         try clear hcz122_1
         try clear hcz122_2
         try clear hcz122_3
         try clear hcz122_4
         try clear hcz127_0
         try clear hcz127_1
         try clear hcz127_2
         try clear hcz127_3
         try clear hcz127_4
         try clear hcz132_0
         try clear hcz132_1
         try clear hcz135_0
         try clear hcz135_1
         try clear hcz142_0
         try clear hcz142_1
         try clear hcz142_2
         try clear hcz142_3
         try clear hcz142_4
         try clear hcz147_0
         try clear hcz147_1
         try clear hcz147_2
         try clear hcz147_3
         try clear hcz147_4
         try clear hcz14_0
         try clear hcz14_1
         try clear hcz14_2
         try clear hcz14_3
         try clear hcz14_4
         try clear hcz159_0
         try clear hcz159_1
         try clear hcz159_2
         try clear hcz159_3
         try clear hcz159_4
         try clear hcz161_0
         try clear hcz161_1
         try clear hcz161_2
         try clear hcz161_3
         try clear hcz161_4
         try clear hcz174_0
         try clear hcz174_1
         try clear hcz174_2
         try clear hcz174_3
         try clear hcz174_4
         try clear hcz190_0
         try clear hcz190_1
         try clear hcz190_2
         try clear hcz190_3
         try clear hcz190_4
         try clear hcz199_0
         try clear hcz199_1
         try clear hcz210_0
         try clear hcz210_1
         try clear hcz210_2
         try clear hcz210_3
         try clear hcz210_4
         try clear hcz217_0
         try clear hcz217_1
         try clear hcz217_2
         try clear hcz217_3
         try clear hcz217_4
         try clear hcz224_0
         try clear hcz224_1
         try clear hcz229_0
         try clear hcz229_1
         try clear hcz238_0
         try clear hcz238_1
         try clear hcz238_2
         try clear hcz238_3
         try clear hcz238_4
         try clear hcz245_0
         try clear hcz245_1
         try clear hcz245_2
         try clear hcz245_3
         try clear hcz245_4
         try clear hcz25_0
         try clear hcz25_1
         try clear hcz25_2
         try clear hcz25_3
         try clear hcz25_4
         try clear hcz29_0
         try clear hcz29_1
         try clear hcz30_0
         try clear hcz30_1
         try clear hcz30_2
         try clear hcz30_3
         try clear hcz30_4
         try clear hcz37_0
         try clear hcz37_1
         try clear hcz37_2
         try clear hcz37_3
         try clear hcz37_4
         try clear hcz49_0
         try clear hcz49_1
         try clear hcz49_2
         try clear hcz49_3
         try clear hcz49_4
         try clear hcz56_0
         try clear hcz56_1
         try clear hcz65_0
         try clear hcz65_1
         try clear hcz65_2
         try clear hcz65_3
         try clear hcz65_4
         try clear hcz6_0
         try clear hcz6_1
         try clear hcz6_2
         try clear hcz6_3
         try clear hcz6_4
         try clear hcz70_0
         try clear hcz70_1
         try clear hcz70_2
         try clear hcz70_3
         try clear hcz70_4
         try clear hcz75_0
         try clear hcz75_1
         try clear hcz78_0
         try clear hcz78_1
         try clear hcz85_0
         try clear hcz85_1
         try clear hcz85_2
         try clear hcz85_3
         try clear hcz85_4
         try clear hcz90_0
         try clear hcz90_1
         try clear hcz90_2
         try clear hcz90_3
         try clear hcz90_4
         try clear hfz111_0
         try clear hfz111_1
         try clear hfz111_2
         try clear hfz111_3
         try clear hfz111_4
         try clear hfz122_0
         try clear hfz122_1
         try clear hfz122_2
         try clear hfz122_3
         try clear hfz122_4
         try clear hfz127_0
         try clear hfz127_1
         try clear hfz127_2
         try clear hfz127_3
         try clear hfz127_4
         try clear hfz132_0
         try clear hfz132_1
         try clear hfz135_0
         try clear hfz135_1
         try clear hfz142_0
         try clear hfz142_1
         try clear hfz142_2
         try clear hfz142_3
         try clear hfz142_4
         try clear hfz147_0
         try clear hfz147_1
         try clear hfz147_2
         try clear hfz147_3
         try clear hfz147_4
         try clear hfz14_0
         try clear hfz14_1
         try clear hfz14_2
         try clear hfz14_3
         try clear hfz14_4
         try clear hfz159_0
         try clear hfz159_1
         try clear hfz159_2
         try clear hfz159_3
         try clear hfz159_4
         try clear hfz161_0
         try clear hfz161_1
         try clear hfz161_2
         try clear hfz161_3
         try clear hfz161_4
         try clear hfz174_0
         try clear hfz174_1
         try clear hfz174_2
         try clear hfz174_3
         try clear hfz174_4
         try clear hfz190_0
         try clear hfz190_1
         try clear hfz190_2
         try clear hfz190_3
         try clear hfz190_4
         try clear hfz199_0
         try clear hfz199_1
         try clear hfz210_0
         try clear hfz210_1
         try clear hfz210_2
         try clear hfz210_3
         try clear hfz210_4
         try clear hfz217_0
         try clear hfz217_1
         try clear hfz217_2
         try clear hfz217_3
         try clear hfz217_4
         try clear hfz224_0
         try clear hfz224_1
         try clear hfz229_0
         try clear hfz229_1
         try clear hfz238_0
         try clear hfz238_1
         try clear hfz238_2
         try clear hfz238_3
         try clear hfz238_4
         try clear hfz245_0
         try clear hfz245_1
         try clear hfz245_2
         try clear hfz245_3
         try clear hfz245_4
         try clear hfz25_0
         try clear hfz25_1
         try clear hfz25_2
         try clear hfz25_3
         try clear hfz25_4
         try clear hfz29_0
         try clear hfz29_1
         try clear hfz30_0
         try clear hfz30_1
         try clear hfz30_2
         try clear hfz30_3
         try clear hfz30_4
         try clear hfz37_0
         try clear hfz37_1
         try clear hfz37_2
         try clear hfz37_3
         try clear hfz37_4
         try clear hfz49_0
         try clear hfz49_1
         try clear hfz49_2
         try clear hfz49_3
         try clear hfz49_4
         try clear hfz56_0
         try clear hfz56_1
         try clear hfz65_0
         try clear hfz65_1
         try clear hfz65_2
         try clear hfz65_3
         try clear hfz65_4
         try clear hfz6_0
         try clear hfz6_1
         try clear hfz6_2
         try clear hfz6_3
         try clear hfz6_4
         try clear hfz70_0
         try clear hfz70_1
         try clear hfz70_2
         try clear hfz70_3
         try clear hfz70_4
         try clear hfz75_0
         try clear hfz75_1
         try clear hfz78_0
         try clear hfz78_1
         try clear hfz85_0
         try clear hfz85_1
         try clear hfz85_2
         try clear hfz85_3
         try clear hfz85_4
         try clear hfz90_0
         try clear hfz90_1
         try clear hfz90_2
         try clear hfz90_3
         try clear hfz90_4
         try clear p2
         obtain ⟨kq, HA, HJ246, HO_296000, HO_296001, HO_296002, BK295, HB⟩ := hcut
         cases kq with
         | zero => exact absurd HA.out (by simp [laws_FnExactFresh.j9])
         | succ kj246 =>
          have H := HA.out
          clear HA
          simp only [laws_FnExactFresh.j9] at H
          replace H := Option.bind_eq_some_iff.mp H
          obtain ⟨t350, A2490, H⟩ := H
          replace H : (if t350 < 0 then (some false) else (if t350 = t317 then (some true) else (some false))) = some r := H
          have A249 := Aside0.mk A2490
          clear A2490
          by_cases c250 : t350 < 0
          ·
           rw [if_pos c250] at H
           have c250b0 : decide (t350 < 0) = true := decide_eq_true c250
           clear c250
           obtain rfl := Option.some.inj H
           have hcz251_0 : wc.cell? ⟨gb295, 0, none⟩ = some (.slice Ao43 t318.length co43) := (blk_cell BK295.out 0).trans rfl
           have hcz251_1 : wc.cell? ⟨gb295, 1, none⟩ = some (.slice Ao50 t319.length co50) := (blk_cell BK295.out 1).trans rfl
           have hcz251_2 : wc.cell? ⟨gb295, 2, none⟩ = some (.slice Ao51 t320.length co51) := (blk_cell BK295.out 2).trans rfl
           have hcz251_3 : wc.cell? ⟨gb295, 3, none⟩ = some (.int .i64 t291) := (blk_cell BK295.out 3).trans rfl
           have hcz251_4 : wc.cell? ⟨gb295, 4, none⟩ = some (.int .i64 t292) := (blk_cell BK295.out 4).trans rfl
           have hfz251_0 := blk_frozen BK295.out 0
           have hfz251_1 := blk_frozen BK295.out 1
           have hfz251_2 := blk_frozen BK295.out 2
           have hfz251_3 := blk_frozen BK295.out 3
           have hfz251_4 := blk_frozen BK295.out 4
           go_wp2_with (first | ((with_reducible refine gate_callee (f := 16) rfl ?_); refine goesL_ (some 98) rfl rfl Try.func16 (by kernel_rfl) rfl #[.agg #[.slice Ao43 t318.length co43, .slice Ao50 t319.length co50, .slice Ao51 t320.length co51, .int .i64 t291, .int .i64 t292], .int .i64 1] rfl (by (try simp only [List.map_toArray, List.map_cons, List.map_nil]); first | done | rfl | (simp only [List.length_drop, List.length_take]; rfl)) ?_; (with_reducible refine (laws_heldMemory.calls kj246 _ _ t318 _ _ t319 _ _ t320 t291 t292 1 t350 _ ?side1 ?side2 ?side3 ?side4 ?side5 ?side6 A249.out).mono ?_); (case side1 => repeat (first | exact (Kd.R_reads' HO_296000.out).2.2 | (with_reducible refine Kd.C_alloc ?_ _) | (with_reducible refine Kd.C_drewN ?_ _) | (with_reducible refine Kd.C_drew ?_))); (case side2 => exact (Kd.R_reads' HO_296000.out).2.1); (case side3 => repeat (first | exact (Kd.R_reads' HO_296001.out).2.2 | (with_reducible refine Kd.C_alloc ?_ _) | (with_reducible refine Kd.C_drewN ?_ _) | (with_reducible refine Kd.C_drew ?_))); (case side4 => exact (Kd.R_reads' HO_296001.out).2.1); (case side5 => repeat (first | exact (Kd.R_reads' HO_296002.out).2.2 | (with_reducible refine Kd.C_alloc ?_ _) | (with_reducible refine Kd.C_drewN ?_ _) | (with_reducible refine Kd.C_drew ?_))); (case side6 => exact (Kd.R_reads' HO_296002.out).2.1); rintro e w252 ⟨rfl, hb⟩; refine ⟨_, rfl, ?_⟩; have n0_ := Aside0.mk (Kd.R_below (by (with_reducible repeat (first | apply Kd.R_alloc | apply Kd.R_drewN | apply Kd.R_drew)); exact HO_296000.out) hb); have n1_ := Aside0.mk (Kd.R_below (by (with_reducible repeat (first | apply Kd.R_alloc | apply Kd.R_drewN | apply Kd.R_drew)); exact HO_296001.out) hb); have n2_ := Aside0.mk (Kd.R_below (by (with_reducible repeat (first | apply Kd.R_alloc | apply Kd.R_drewN | apply Kd.R_drew)); exact HO_296002.out) hb); have n3_ := Aside0.mk (below_step (by repeat (first | (with_reducible first | exact HB.out | apply below_alloc | apply pw_below_drewN | apply below_drew1) | exact HB.out)) hb); clear HO_296000; clear HO_296001; clear HO_296002; clear HB; have HO_296000 := n0_; have HO_296001 := n1_; have HO_296002 := n2_; have HB := n3_; clear n0_ n1_ n2_ n3_; (try clear hb); (try clear hb2); (try clear hk); (try clear hi)))
           go_ret
           exact ⟨by first | rfl | (simp [errW_none, errW_some] <;> rfl) | (simp [*, errW_none, errW_some] <;> rfl), by repeat (first | (with_reducible first | exact HB.out | apply below_alloc | apply pw_below_drewN | apply below_drew1) | exact HB.out)⟩
          ·
           rw [if_neg c250] at H
           have c250b0 : decide (t350 < 0) = false := decide_eq_false c250
           clear c250
           by_cases c253 : t350 = t317
           ·
            rw [if_pos c253] at H
            have c253b0 : (t350 == t317) = true := beq_iff_eq.mpr c253
            have c253b1 : (t350 != t317) = false := bne_eq_false_iff_eq.mpr c253
            clear c253
            obtain rfl := Option.some.inj H
            have hcz254_0 : wc.cell? ⟨gb295, 0, none⟩ = some (.slice Ao43 t318.length co43) := (blk_cell BK295.out 0).trans rfl
            have hcz254_1 : wc.cell? ⟨gb295, 1, none⟩ = some (.slice Ao50 t319.length co50) := (blk_cell BK295.out 1).trans rfl
            have hcz254_2 : wc.cell? ⟨gb295, 2, none⟩ = some (.slice Ao51 t320.length co51) := (blk_cell BK295.out 2).trans rfl
            have hcz254_3 : wc.cell? ⟨gb295, 3, none⟩ = some (.int .i64 t291) := (blk_cell BK295.out 3).trans rfl
            have hcz254_4 : wc.cell? ⟨gb295, 4, none⟩ = some (.int .i64 t292) := (blk_cell BK295.out 4).trans rfl
            have hfz254_0 := blk_frozen BK295.out 0
            have hfz254_1 := blk_frozen BK295.out 1
            have hfz254_2 := blk_frozen BK295.out 2
            have hfz254_3 := blk_frozen BK295.out 3
            have hfz254_4 := blk_frozen BK295.out 4
            go_wp2_with (first | ((with_reducible refine gate_callee (f := 16) rfl ?_); refine goesL_ (some 98) rfl rfl Try.func16 (by kernel_rfl) rfl #[.agg #[.slice Ao43 t318.length co43, .slice Ao50 t319.length co50, .slice Ao51 t320.length co51, .int .i64 t291, .int .i64 t292], .int .i64 1] rfl (by (try simp only [List.map_toArray, List.map_cons, List.map_nil]); first | done | rfl | (simp only [List.length_drop, List.length_take]; rfl)) ?_; (with_reducible refine (laws_heldMemory.calls kj246 _ _ t318 _ _ t319 _ _ t320 t291 t292 1 t350 _ ?side1 ?side2 ?side3 ?side4 ?side5 ?side6 A249.out).mono ?_); (case side1 => repeat (first | exact (Kd.R_reads' HO_296000.out).2.2 | (with_reducible refine Kd.C_alloc ?_ _) | (with_reducible refine Kd.C_drewN ?_ _) | (with_reducible refine Kd.C_drew ?_))); (case side2 => exact (Kd.R_reads' HO_296000.out).2.1); (case side3 => repeat (first | exact (Kd.R_reads' HO_296001.out).2.2 | (with_reducible refine Kd.C_alloc ?_ _) | (with_reducible refine Kd.C_drewN ?_ _) | (with_reducible refine Kd.C_drew ?_))); (case side4 => exact (Kd.R_reads' HO_296001.out).2.1); (case side5 => repeat (first | exact (Kd.R_reads' HO_296002.out).2.2 | (with_reducible refine Kd.C_alloc ?_ _) | (with_reducible refine Kd.C_drewN ?_ _) | (with_reducible refine Kd.C_drew ?_))); (case side6 => exact (Kd.R_reads' HO_296002.out).2.1); rintro e w255 ⟨rfl, hb⟩; refine ⟨_, rfl, ?_⟩; have n0_ := Aside0.mk (Kd.R_below (by (with_reducible repeat (first | apply Kd.R_alloc | apply Kd.R_drewN | apply Kd.R_drew)); exact HO_296000.out) hb); have n1_ := Aside0.mk (Kd.R_below (by (with_reducible repeat (first | apply Kd.R_alloc | apply Kd.R_drewN | apply Kd.R_drew)); exact HO_296001.out) hb); have n2_ := Aside0.mk (Kd.R_below (by (with_reducible repeat (first | apply Kd.R_alloc | apply Kd.R_drewN | apply Kd.R_drew)); exact HO_296002.out) hb); have n3_ := Aside0.mk (below_step (by repeat (first | (with_reducible first | exact HB.out | apply below_alloc | apply pw_below_drewN | apply below_drew1) | exact HB.out)) hb); clear HO_296000; clear HO_296001; clear HO_296002; clear HB; have HO_296000 := n0_; have HO_296001 := n1_; have HO_296002 := n2_; have HB := n3_; clear n0_ n1_ n2_ n3_; (try clear hb); (try clear hb2); (try clear hk); (try clear hi)))
            go_ret
            exact ⟨by first | rfl | (simp [errW_none, errW_some] <;> rfl) | (simp [*, errW_none, errW_some] <;> rfl), by repeat (first | (with_reducible first | exact HB.out | apply below_alloc | apply pw_below_drewN | apply below_drew1) | exact HB.out)⟩
           ·
            rw [if_neg c253] at H
            have c253b0 : (t350 == t317) = false := beq_eq_false_iff_ne.mpr c253
            have c253b1 : (t350 != t317) = true := bne_iff_ne.mpr c253
            obtain rfl := Option.some.inj H
            have hcz256_0 : wc.cell? ⟨gb295, 0, none⟩ = some (.slice Ao43 t318.length co43) := (blk_cell BK295.out 0).trans rfl
            have hcz256_1 : wc.cell? ⟨gb295, 1, none⟩ = some (.slice Ao50 t319.length co50) := (blk_cell BK295.out 1).trans rfl
            have hcz256_2 : wc.cell? ⟨gb295, 2, none⟩ = some (.slice Ao51 t320.length co51) := (blk_cell BK295.out 2).trans rfl
            have hcz256_3 : wc.cell? ⟨gb295, 3, none⟩ = some (.int .i64 t291) := (blk_cell BK295.out 3).trans rfl
            have hcz256_4 : wc.cell? ⟨gb295, 4, none⟩ = some (.int .i64 t292) := (blk_cell BK295.out 4).trans rfl
            have hfz256_0 := blk_frozen BK295.out 0
            have hfz256_1 := blk_frozen BK295.out 1
            have hfz256_2 := blk_frozen BK295.out 2
            have hfz256_3 := blk_frozen BK295.out 3
            have hfz256_4 := blk_frozen BK295.out 4
            go_wp2_with (first | ((with_reducible refine gate_callee (f := 16) rfl ?_); refine goesL_ (some 98) rfl rfl Try.func16 (by kernel_rfl) rfl #[.agg #[.slice Ao43 t318.length co43, .slice Ao50 t319.length co50, .slice Ao51 t320.length co51, .int .i64 t291, .int .i64 t292], .int .i64 1] rfl (by (try simp only [List.map_toArray, List.map_cons, List.map_nil]); first | done | rfl | (simp only [List.length_drop, List.length_take]; rfl)) ?_; (with_reducible refine (laws_heldMemory.calls kj246 _ _ t318 _ _ t319 _ _ t320 t291 t292 1 t350 _ ?side1 ?side2 ?side3 ?side4 ?side5 ?side6 A249.out).mono ?_); (case side1 => repeat (first | exact (Kd.R_reads' HO_296000.out).2.2 | (with_reducible refine Kd.C_alloc ?_ _) | (with_reducible refine Kd.C_drewN ?_ _) | (with_reducible refine Kd.C_drew ?_))); (case side2 => exact (Kd.R_reads' HO_296000.out).2.1); (case side3 => repeat (first | exact (Kd.R_reads' HO_296001.out).2.2 | (with_reducible refine Kd.C_alloc ?_ _) | (with_reducible refine Kd.C_drewN ?_ _) | (with_reducible refine Kd.C_drew ?_))); (case side4 => exact (Kd.R_reads' HO_296001.out).2.1); (case side5 => repeat (first | exact (Kd.R_reads' HO_296002.out).2.2 | (with_reducible refine Kd.C_alloc ?_ _) | (with_reducible refine Kd.C_drewN ?_ _) | (with_reducible refine Kd.C_drew ?_))); (case side6 => exact (Kd.R_reads' HO_296002.out).2.1); rintro e w257 ⟨rfl, hb⟩; refine ⟨_, rfl, ?_⟩; have n0_ := Aside0.mk (Kd.R_below (by (with_reducible repeat (first | apply Kd.R_alloc | apply Kd.R_drewN | apply Kd.R_drew)); exact HO_296000.out) hb); have n1_ := Aside0.mk (Kd.R_below (by (with_reducible repeat (first | apply Kd.R_alloc | apply Kd.R_drewN | apply Kd.R_drew)); exact HO_296001.out) hb); have n2_ := Aside0.mk (Kd.R_below (by (with_reducible repeat (first | apply Kd.R_alloc | apply Kd.R_drewN | apply Kd.R_drew)); exact HO_296002.out) hb); have n3_ := Aside0.mk (below_step (by repeat (first | (with_reducible first | exact HB.out | apply below_alloc | apply pw_below_drewN | apply below_drew1) | exact HB.out)) hb); clear HO_296000; clear HO_296001; clear HO_296002; clear HB; have HO_296000 := n0_; have HO_296001 := n1_; have HO_296002 := n2_; have HB := n3_; clear n0_ n1_ n2_ n3_; (try clear hb); (try clear hb2); (try clear hk); (try clear hi)))
            go_ret
            exact ⟨by first | rfl | (simp [errW_none, errW_some] <;> rfl) | (simp [*, errW_none, errW_some] <;> rfl), by repeat (first | (with_reducible first | exact HB.out | apply below_alloc | apply pw_below_drewN | apply below_drew1) | exact HB.out)⟩

end Go.Proofs.Ytodicbbeaidibaa.PFnExactFresh
