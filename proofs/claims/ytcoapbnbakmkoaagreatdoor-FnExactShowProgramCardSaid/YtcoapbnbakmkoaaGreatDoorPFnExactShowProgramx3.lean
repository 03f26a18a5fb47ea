/- Written by a program of this session (a turned copy of the kit's print): a contract for each Go function. No condition beside those in each statement. -/
import Derived.Test.YtcoapbnbakmkoaaGreatDoorPFnExactShowProgramx0
import Derived.Test.YtcoapbnbakmkoaaGreatDoorPFnExactShowProgramx2
namespace Go.Proofs.YtcoapbnbakmkoaaGreatDoor.PFnExactShowProgram
open Go.RowKit Go.Proofs.YtcoapbnbakmkoaaGreatDoor.Given Go.Proofs.YtcoapbnbakmkoaaGreatDoorW.PrintWords Go.Proofs.YtcoapbnbakmkoaaGreatDoorW.PrintLast Go.Proofs.YtcoapbnbakmkoaaGreatDoorW.PrintMore
attribute [local go_sem] max2_int min2_int max_two min_two max_three min_three max_four min_four   -- for this text's walks alone
set_option linter.unusedVariables false
set_option linter.unusedSimpArgs false

/-! ### laws_eqParamS: function 94 -/
def laws_eqParamS.l0 : Nat → List (S58) → List (S58) → Int → Option (Bool)
 | 0, _, _, _ => none
 | k + 1, x0, x1, x5 => if x5 < (x0.length : Int) then (if 0 ≤ x5 then (if x5 < (x1.length : Int) then ((laws_eqParam.f ((rd_T58 x0 x5).f0) ((rd_T58 x0 x5).f1) ((rd_T58 x1 x5).f0) ((rd_T58 x1 x5).f1)).bind fun t186 => (if t186 = true then (laws_eqParamS.l0 k x0 x1 (wrap64 (x5 + 1))) else (some false))) else (none)) else (none)) else (some true)
def laws_eqParamS.f (k : Nat) (l0 : List (S58)) (l1 : List (S58)) : Option (Bool) := if (l0.length : Int) = (l1.length : Int) then (laws_eqParamS.l0 k l0 l1 0) else (some false)
theorem laws_eqParamS.mono_l : ∀ k, (∀ y0 y1 y2, LeO (laws_eqParamS.l0 k y0 y1 y2) (laws_eqParamS.l0 (k + 1) y0 y1 y2))
 | 0 => fun _ _ _ r h => by simp [laws_eqParamS.l0] at h
 | k + 1 => by
  have ih0 := laws_eqParamS.mono_l k
  ·
   intro y0 y1 y2
   unfold laws_eqParamS.l0
   with_reducible repeat' first | exact ih0 _ _ _ | exact LeO.refl _ | exact LeO.none _ | refine LeO.ite ?_ ?_ | refine LeO.bind ?_ (fun _ => ?_)
theorem laws_eqParamS.mono : ∀ a0 a1 k, LeO (laws_eqParamS.f k a0 a1) (laws_eqParamS.f (k + 1) a0 a1) := by
 intro a0 a1 k; have ih0 := laws_eqParamS.mono_l k
 unfold laws_eqParamS.f
 with_reducible repeat' first | exact ih0 _ _ _ | exact LeO.refl _ | exact LeO.none _ | refine LeO.ite ?_ ?_ | refine LeO.bind ?_ (fun _ => ?_)
def laws_eqParamS.T6 : Bool × List (List Nat × List Nat) := (true, [([], []), ([], []), ([0, 1], [0, 1]), ([2], [2]), ([], []), ([], []), ([4, 5], [4, 5]), ([6], [6]), ([3, 7], [3, 7]), ([8], [8])])
def laws_eqParamS.B6 : List Nat := [0, 0, 3, 7, 0, 0, 48, 112, 255, 511]
theorem laws_eqParamS.tab6 : rtab .any (opsOf Tryz.f94 6) = laws_eqParamS.T6 := by kernel_rfl
theorem laws_eqParamS.bits6 : waitsOk laws_eqParamS.T6.2 laws_eqParamS.B6 = true := by kernel_rfl
set_option maxHeartbeats 8000000 in
set_option maxRecDepth 100000 in
theorem laws_eqParamS.calls (k : Nat) (A0 : Option Addr) (c0 : Nat) (l0 : List (S58)) (A1 : Option Addr) (c1 : Nat) (l1 : List (S58)) (r : Bool) (w : World) (hr0 : Kd.C k58 w A0 l0.length l0) (hc0 : l0.length ≤ c0) (hr1 : Kd.C k58 w A1 l1.length l1) (hc1 : l1.length ≤ c1) (h : laws_eqParamS.f k l0 l1 = some r) :
  Calls Tryz.prog 94 #[.slice A0 l0.length c0, .slice A1 l1.length c1] w fun e w' => e = .returned (.bool r) ∧ Below w.heap.size w w' := by
 have hu58 := Tryz.underlying58; have HR0 := As.mk hr0; have HC0 := As.mk hc0; clear hr0 hc0; have HR1 := As.mk hr1; have HC1 := As.mk hc1; clear hr1 hc1; have HB := As.mk (Below.refl w.heap.size w); have H : (if (l0.length : Int) = (l1.length : Int) then (laws_eqParamS.l0 k l0 l1 0) else (some false)) = some r := h; clear h
 by_cases c3 : (l0.length : Int) = (l1.length : Int)
 rotate_left
 ·
  rw [if_neg c3] at H; have c3b0 : ((l0.length : Int) == (l1.length : Int)) = false := beq_eq_false_iff_ne.mpr c3; have c3b1 : ((l0.length : Int) != (l1.length : Int)) = true := bne_iff_ne.mpr c3
  have c3b2 : (l0.length == l1.length) = false := by first | simpa using c3 | (simp at c3 ⊢; omega)
  obtain rfl := sj H; go_enter Tryz.func94, Tryz.ntmps94
  go_wp2
  go_ret
  exact ⟨ez, be w⟩

 rw [if_pos c3] at H; have c3b0 : ((l0.length : Int) == (l1.length : Int)) = true := beq_iff_eq.mpr c3; have c3b1 : ((l0.length : Int) != (l1.length : Int)) = false := bne_eq_false_iff_eq.mpr c3
 have c3b2 : (l0.length == l1.length) = true := by first | simpa using c3 | (simp at c3 ⊢; omega)
 clear c3; have H' := As.mk H; clear H; go_enter Tryz.func94, Tryz.ntmps94
 go_wp2
 go_loopg [5] k (fun kq v5 w' => ∃ (x5_1 : Int), v5 = .int .i64 x5_1 ∧ As (laws_eqParamS.l0 kq l0 l1 x5_1 = some r) ∧ As (kq ≤ k) ∧ As (Below w.heap.size w w'))
 case atStart => exact ⟨(0), (by first | rfl | (simp; done) | (simp [*]; done)), H', ⟨Nat.le_refl _⟩, ⟨be w⟩⟩
 case round =>
  clear H'; (try clear c3); (try clear c3b0); (try clear c3b1); (try clear c3b2); obtain ⟨x5_1, rfl, HA, HK1, HB⟩ := hrel
  cases gk with
  | zero => exact absurd HA.out (by simp [laws_eqParamS.l0])
  | succ k1 =>
   have H := HA.out; clear HA
   simp only [laws_eqParamS.l0] at H
   by_cases c4 : x5_1 < (l0.length : Int)
   rotate_left
   ·
    rw [if_neg c4] at H; have c4b0 := decide_eq_false c4; clear c4; obtain rfl := sj H
    go_wp2
    go_ret
    exact ⟨ez, be w⟩
   rw [if_pos c4] at H; have c4b0 := decide_eq_true c4; clear c4; replace H := ia H; obtain ⟨c5b0, H⟩ := H; replace H := ia H; obtain ⟨c6b0, H⟩ := H; replace H := bo H; obtain ⟨t186, A7, H⟩ := H
   by_cases c8 : t186 = true
   ·
    subst c8; rw [if_pos rfl] at H; have H' := As.mk H; clear H
    try go_wp2
    replace HB := As.mk (below_drew1 HB.out); have p184 : 0 ≤ (x5_1 : Int) := od; have q184 : x5_1 < (l0.length : Int) := od; obtain ⟨ad184, e184, x184a, x184b⟩ := at_T58 HR0.out x5_1 p184 q184; have hw184_1 := x184b; have hw184_0 := x184a; cases e184; replace x184a := ce HB.out x184a; replace x184b := ce HB.out x184b; replace p184 := eq_true p184; replace q184 := eq_true q184; have p185 : 0 ≤ (x5_1 : Int) := od; have q185 : x5_1 < (l1.length : Int) := od; obtain ⟨ad185, e185, x185a, x185b⟩ := at_T58 HR1.out x5_1 p185 q185; have hw185_1 := x185b; have hw185_0 := x185a; cases e185; replace x185a := ce HB.out x185a; replace x185b := ce HB.out x185b; replace p185 := eq_true p185; replace q185 := eq_true q185
    refine start_ (n := 10) (S := _) (ds := []) #[O,O,O,O,O,O,O,O,O,O] (by kernel_rfl) rfl rfl (ba (cf hw184_0) (ba (cf hw184_1) (ba (cf hw185_0) (cf hw185_1)))) (fun hHeld => ?_); refine with_tabW laws_eqParamS.tab6 laws_eqParamS.bits6 (fun HT_ HW_ => ?_)
    generalize wr.drew = w9 at HB x184a x184b x185a x185b hHeld ⊢
    refine pq 0 17 HT_ _ _ ?_; refine pq 1 18 HT_ _ _ ?_; refine pq 2 19 HT_ _ _ ?_; refine pq 4 21 HT_ _ _ ?_; refine pq 5 22 HT_ _ _ ?_; refine pq 6 23 HT_ _ _ ?_; refine tq_c1c1c1c1 3 20 HT_ HW_.out hHeld _ _ ?_; refine tq_c1c1c1c1 7 24 HT_ HW_.out hHeld _ _ ?_; refine on 8 (some 25) HT_ (fun K hK => ?_); refine goS Tryz.func112 #[.agg #[.string ((rd_T58 l0 x5_1).f0), .int .i64 ((rd_T58 l0 x5_1).f1)], .agg #[.string ((rd_T58 l1 x5_1).f0), .int .i64 ((rd_T58 l1 x5_1).f1)]] ?_
    with_reducible refine (laws_eqParam.calls ((rd_T58 l0 x5_1).f0) ((rd_T58 l0 x5_1).f1) ((rd_T58 l1 x5_1).f0) ((rd_T58 l1 x5_1).f1) true _ A7.out).mono ?_
    rintro e w10 ⟨rfl, hb⟩
    refine ⟨_, rfl, ?_⟩
    replace HB := bs w hb; (try clear hb); (try clear hb2); (try clear hk); (try clear hi)
    refine hK.out _ _ (ba (cf hw184_0) (ba (cf hw184_1) (ba (cf hw185_0) (cf hw185_1)))) (fun hHeld => ?_)
    clear hK K; refine nm _ ?_; refine pq 9 26 HT_ _ _ ?_
    refine done_ (done_of HT_.out (by kernel_rfl)) ?_
    try go_wp2
    go_roundg k1
    case measure => have := HK1.out; omega
    case rel => exact ⟨(wrap64 (x5_1 + 1)), (by first | rfl | (simp; done) | (simp [*]; done)), H', ⟨by have := HK1.out; omega⟩, ⟨be w⟩⟩
   replace c8 := Bool.eq_false_iff.mpr c8; subst c8; rw [if_neg ft] at H; obtain rfl := sj H
   try go_wp2
   replace HB := As.mk (below_drew1 HB.out); have p184 : 0 ≤ (x5_1 : Int) := od; have q184 : x5_1 < (l0.length : Int) := od; obtain ⟨ad184, e184, x184a, x184b⟩ := at_T58 HR0.out x5_1 p184 q184; have hw184_1 := x184b; have hw184_0 := x184a; cases e184; replace x184a := ce HB.out x184a; replace x184b := ce HB.out x184b; replace p184 := eq_true p184; replace q184 := eq_true q184; have p185 : 0 ≤ (x5_1 : Int) := od; have q185 : x5_1 < (l1.length : Int) := od; obtain ⟨ad185, e185, x185a, x185b⟩ := at_T58 HR1.out x5_1 p185 q185; have hw185_1 := x185b; have hw185_0 := x185a; cases e185; replace x185a := ce HB.out x185a; replace x185b := ce HB.out x185b; replace p185 := eq_true p185; replace q185 := eq_true q185
   refine start_ (n := 10) (S := _) (ds := []) #[O,O,O,O,O,O,O,O,O,O] (by kernel_rfl) rfl rfl (ba (cf hw184_0) (ba (cf hw184_1) (ba (cf hw185_0) (cf hw185_1)))) (fun hHeld => ?_); refine with_tabW laws_eqParamS.tab6 laws_eqParamS.bits6 (fun HT_ HW_ => ?_)
   generalize wr.drew = w11 at HB x184a x184b x185a x185b hHeld ⊢
   refine pq 0 17 HT_ _ _ ?_; refine pq 1 18 HT_ _ _ ?_; refine pq 2 19 HT_ _ _ ?_; refine pq 4 21 HT_ _ _ ?_; refine pq 5 22 HT_ _ _ ?_; refine pq 6 23 HT_ _ _ ?_; refine tq_c1c1c1c1 3 20 HT_ HW_.out hHeld _ _ ?_; refine tq_c1c1c1c1 7 24 HT_ HW_.out hHeld _ _ ?_; refine on 8 (some 25) HT_ (fun K hK => ?_); refine goS Tryz.func112 #[.agg #[.string ((rd_T58 l0 x5_1).f0), .int .i64 ((rd_T58 l0 x5_1).f1)], .agg #[.string ((rd_T58 l1 x5_1).f0), .int .i64 ((rd_T58 l1 x5_1).f1)]] ?_
   with_reducible refine (laws_eqParam.calls ((rd_T58 l0 x5_1).f0) ((rd_T58 l0 x5_1).f1) ((rd_T58 l1 x5_1).f0) ((rd_T58 l1 x5_1).f1) false _ A7.out).mono ?_
   rintro e w12 ⟨rfl, hb⟩
   refine ⟨_, rfl, ?_⟩
   replace HB := bs w hb; (try clear hb); (try clear hb2); (try clear hk); (try clear hi)
   refine hK.out _ _ (ba (cf hw184_0) (ba (cf hw184_1) (ba (cf hw185_0) (cf hw185_1)))) (fun hHeld => ?_)
   clear hK K; refine nm _ ?_; refine pq 9 26 HT_ _ _ ?_
   refine done_ (done_of HT_.out (by kernel_rfl)) ?_
   try go_wp2
   go_ret
   exact ⟨ez, be w⟩
/-! ### laws_eqFn: function 69 -/
def laws_eqFn.f (k : Nat) (a0_0 : ByteArray) (l0_1 : List (S58)) (a0_2 : Int) (a0_3 : Int) (a0_4 : Int) (a1_0 : ByteArray) (l1_1 : List (S58)) (a1_2 : Int) (a1_3 : Int) (a1_4 : Int) : Option (Bool) := if a0_0.toList = a1_0.toList then ((laws_eqParamS.f k l0_1 l1_1).bind fun t189 => (if t189 = true then (if a0_2 = a1_2 then (if a0_3 = a1_3 then (if a0_4 = a1_4 then (some true) else (some false)) else (some false)) else (some false)) else (some false))) else (some false)
theorem laws_eqFn.mono : ∀ a0 a1 a2 a3 a4 a5 a6 a7 a8 a9 k, LeO (laws_eqFn.f k a0 a1 a2 a3 a4 a5 a6 a7 a8 a9) (laws_eqFn.f (k + 1) a0 a1 a2 a3 a4 a5 a6 a7 a8 a9) := by
 intro a0 a1 a2 a3 a4 a5 a6 a7 a8 a9 k
 unfold laws_eqFn.f
 with_reducible repeat' first | exact laws_eqParamS.mono _ _ _ | exact LeO.refl _ | exact LeO.none _ | refine LeO.ite ?_ ?_ | refine LeO.bind ?_ (fun _ => ?_)
set_option maxHeartbeats 8000000 in
set_option maxRecDepth 100000 in
theorem laws_eqFn.calls (k : Nat) (a0_0 : ByteArray) (A0_1 : Option Addr) (c0_1 : Nat) (l0_1 : List (S58)) (a0_2 : Int) (a0_3 : Int) (a0_4 : Int) (a1_0 : ByteArray) (A1_1 : Option Addr) (c1_1 : Nat) (l1_1 : List (S58)) (a1_2 : Int) (a1_3 : Int) (a1_4 : Int) (r : Bool) (w : World) (hr0_1 : Kd.C k58 w A0_1 l0_1.length l0_1) (hc0_1 : l0_1.length ≤ c0_1) (hr1_1 : Kd.C k58 w A1_1 l1_1.length l1_1) (hc1_1 : l1_1.length ≤ c1_1) (h : laws_eqFn.f k a0_0 l0_1 a0_2 a0_3 a0_4 a1_0 l1_1 a1_2 a1_3 a1_4 = some r) :
  Calls Tryz.prog 69 #[.agg #[.string a0_0, .slice A0_1 l0_1.length c0_1, .int .i64 a0_2, .int .i64 a0_3, .int .i64 a0_4], .agg #[.string a1_0, .slice A1_1 l1_1.length c1_1, .int .i64 a1_2, .int .i64 a1_3, .int .i64 a1_4]] w fun e w' => e = .returned (.bool r) ∧ Below w.heap.size w w' := by
 have hu56 := Tryz.underlying56; have HR0_1 := As.mk hr0_1; have HC0_1 := As.mk hc0_1; clear hr0_1 hc0_1; have HR1_1 := As.mk hr1_1; have HC1_1 := As.mk hc1_1; clear hr1_1 hc1_1; have HB := As.mk (Below.refl w.heap.size w); have H : (if a0_0.toList = a1_0.toList then ((laws_eqParamS.f k l0_1 l1_1).bind fun t189 => (if t189 = true then (if a0_2 = a1_2 then (if a0_3 = a1_3 then (if a0_4 = a1_4 then (some true) else (some false)) else (some false)) else (some false)) else (some false))) else (some false)) = some r := h; clear h
 by_cases c3 : a0_0.toList = a1_0.toList
 rotate_left
 ·
  rw [if_neg c3] at H; have c3b0 : (a0_0.toList == a1_0.toList) = false := beq_eq_false_iff_ne.mpr c3; have c3b1 : (a0_0.toList != a1_0.toList) = true := bne_iff_ne.mpr c3; obtain rfl := sj H; go_enter Tryz.func69, Tryz.ntmps69
  go_wp2_with (first | ((with_reducible refine gate_dst (N := 2) rfl ?_); refine bxe 2 #[.string a0_0, .slice A0_1 l0_1.length c0_1, .int .i64 a0_2, .int .i64 a0_3, .int .i64 a0_4] 56 ?_; intro gb187 hg w47 BK187 hb; have GW187 := As.mk (gs w hg); replace HB := bs w hb; clear hb hg) | ((with_reducible refine gate_dst (N := 3) rfl ?_); refine bxe 3 #[.string a1_0, .slice A1_1 l1_1.length c1_1, .int .i64 a1_2, .int .i64 a1_3, .int .i64 a1_4] 56 ?_; intro gb188 hg w48 BK188 hb; have GW188 := As.mk (gs w hg); replace HB := bs w hb; have NB187_188 := As.mk (nl hg (bx BK187.out)); have NB188_187 := As.mk (ng hg (bx BK187.out)); replace BK187 := bb BK187 hb; clear hb hg; have hnb49 := NB187_188.out; have hnc49 := NB188_187.out; obtain ⟨y50a, y50b, y50c, y50d, y50e, v50a, v50b, v50c, v50d, v50e⟩ := cl5 BK187.out; obtain ⟨y51a, y51b, y51c, y51d, y51e, v51a, v51b, v51c, v51d, v51e⟩ := cl5 BK188.out))
  go_ret
  exact ⟨ez, be w⟩

 rw [if_pos c3] at H; have c3b0 : (a0_0.toList == a1_0.toList) = true := beq_iff_eq.mpr c3; have c3b1 : (a0_0.toList != a1_0.toList) = false := bne_eq_false_iff_eq.mpr c3; clear c3; replace H := bo H; obtain ⟨t189, A4, H⟩ := H
 by_cases c5 : t189 = true
 rotate_left
 ·
  replace c5 := Bool.eq_false_iff.mpr c5; subst c5; rw [if_neg ft] at H; obtain rfl := sj H; go_enter Tryz.func69, Tryz.ntmps69
  go_wp2_with (first | ((with_reducible refine gate_dst (N := 2) rfl ?_); refine bxe 2 #[.string a0_0, .slice A0_1 l0_1.length c0_1, .int .i64 a0_2, .int .i64 a0_3, .int .i64 a0_4] 56 ?_; intro gb187 hg w41 BK187 hb; have GW187 := As.mk (gs w hg); replace HB := bs w hb; clear hb hg) | ((with_reducible refine gate_dst (N := 3) rfl ?_); refine bxe 3 #[.string a1_0, .slice A1_1 l1_1.length c1_1, .int .i64 a1_2, .int .i64 a1_3, .int .i64 a1_4] 56 ?_; intro gb188 hg w42 BK188 hb; have GW188 := As.mk (gs w hg); replace HB := bs w hb; have NB187_188 := As.mk (nl hg (bx BK187.out)); have NB188_187 := As.mk (ng hg (bx BK187.out)); replace BK187 := bb BK187 hb; clear hb hg; have hnb43 := NB187_188.out; have hnc43 := NB188_187.out; obtain ⟨y44a, y44b, y44c, y44d, y44e, v44a, v44b, v44c, v44d, v44e⟩ := cl5 BK187.out; obtain ⟨y45a, y45b, y45c, y45d, y45e, v45a, v45b, v45c, v45d, v45e⟩ := cl5 BK188.out) | ((with_reducible refine gate_callee (f := 94) rfl ?_); refine goL (some 14) Tryz.func94 #[.slice A0_1 l0_1.length c0_1, .slice A1_1 l1_1.length c1_1] ?_; (with_reducible refine (laws_eqParamS.calls k _ _ l0_1 _ _ l1_1 false _ (cb HR0_1) HC0_1.out (cb HR1_1) HC1_1.out A4.out).mono ?_); rintro e w46 ⟨rfl, hb⟩; refine ⟨_, rfl, ?_⟩; replace HB := bs w hb; (try clear hb)))
  go_ret
  exact ⟨ez, be w⟩
 subst c5; rw [if_pos rfl] at H
 by_cases c6 : a0_2 = a1_2
 rotate_left
 ·
  rw [if_neg c6] at H; have c6b0 : (a0_2 == a1_2) = false := beq_eq_false_iff_ne.mpr c6; have c6b1 : (a0_2 != a1_2) = true := bne_iff_ne.mpr c6; obtain rfl := sj H; go_enter Tryz.func69, Tryz.ntmps69
  go_wp2_with (first | ((with_reducible refine gate_dst (N := 2) rfl ?_); refine bxe 2 #[.string a0_0, .slice A0_1 l0_1.length c0_1, .int .i64 a0_2, .int .i64 a0_3, .int .i64 a0_4] 56 ?_; intro gb187 hg w33 BK187 hb; have GW187 := As.mk (gs w hg); replace HB := bs w hb; clear hb hg) | ((with_reducible refine gate_dst (N := 3) rfl ?_); refine bxe 3 #[.string a1_0, .slice A1_1 l1_1.length c1_1, .int .i64 a1_2, .int .i64 a1_3, .int .i64 a1_4] 56 ?_; intro gb188 hg w34 BK188 hb; have GW188 := As.mk (gs w hg); replace HB := bs w hb; have NB187_188 := As.mk (nl hg (bx BK187.out)); have NB188_187 := As.mk (ng hg (bx BK187.out)); replace BK187 := bb BK187 hb; clear hb hg; have hnb35 := NB187_188.out; have hnc35 := NB188_187.out; obtain ⟨y36a, y36b, y36c, y36d, y36e, v36a, v36b, v36c, v36d, v36e⟩ := cl5 BK187.out; obtain ⟨y37a, y37b, y37c, y37d, y37e, v37a, v37b, v37c, v37d, v37e⟩ := cl5 BK188.out) | ((with_reducible refine gate_callee (f := 94) rfl ?_); refine goL (some 14) Tryz.func94 #[.slice A0_1 l0_1.length c0_1, .slice A1_1 l1_1.length c1_1] ?_; (with_reducible refine (laws_eqParamS.calls k _ _ l0_1 _ _ l1_1 true _ (cb HR0_1) HC0_1.out (cb HR1_1) HC1_1.out A4.out).mono ?_); rintro e w38 ⟨rfl, hb⟩; refine ⟨_, rfl, ?_⟩; replace BK187 := bb BK187 hb; replace BK188 := bb BK188 hb; replace HB := bs w hb; (try clear hb); obtain ⟨y39a, y39b, y39c, y39d, y39e, v39a, v39b, v39c, v39d, v39e⟩ := cl5 BK187.out; obtain ⟨y40a, y40b, y40c, y40d, y40e, v40a, v40b, v40c, v40d, v40e⟩ := cl5 BK188.out))
  go_ret
  exact ⟨ez, be w⟩
 rw [if_pos c6] at H; have c6b0 : (a0_2 == a1_2) = true := beq_iff_eq.mpr c6; have c6b1 : (a0_2 != a1_2) = false := bne_eq_false_iff_eq.mpr c6; clear c6
 by_cases c7 : a0_3 = a1_3
 rotate_left
 ·
  rw [if_neg c7] at H; have c7b0 : (a0_3 == a1_3) = false := beq_eq_false_iff_ne.mpr c7; have c7b1 : (a0_3 != a1_3) = true := bne_iff_ne.mpr c7; obtain rfl := sj H; go_enter Tryz.func69, Tryz.ntmps69
  go_wp2_with (first | ((with_reducible refine gate_dst (N := 2) rfl ?_); refine bxe 2 #[.string a0_0, .slice A0_1 l0_1.length c0_1, .int .i64 a0_2, .int .i64 a0_3, .int .i64 a0_4] 56 ?_; intro gb187 hg w25 BK187 hb; have GW187 := As.mk (gs w hg); replace HB := bs w hb; clear hb hg) | ((with_reducible refine gate_dst (N := 3) rfl ?_); refine bxe 3 #[.string a1_0, .slice A1_1 l1_1.length c1_1, .int .i64 a1_2, .int .i64 a1_3, .int .i64 a1_4] 56 ?_; intro gb188 hg w26 BK188 hb; have GW188 := As.mk (gs w hg); replace HB := bs w hb; have NB187_188 := As.mk (nl hg (bx BK187.out)); have NB188_187 := As.mk (ng hg (bx BK187.out)); replace BK187 := bb BK187 hb; clear hb hg; have hnb27 := NB187_188.out; have hnc27 := NB188_187.out; obtain ⟨y28a, y28b, y28c, y28d, y28e, v28a, v28b, v28c, v28d, v28e⟩ := cl5 BK187.out; obtain ⟨y29a, y29b, y29c, y29d, y29e, v29a, v29b, v29c, v29d, v29e⟩ := cl5 BK188.out) | ((with_reducible refine gate_callee (f := 94) rfl ?_); refine goL (some 14) Tryz.func94 #[.slice A0_1 l0_1.length c0_1, .slice A1_1 l1_1.length c1_1] ?_; (with_reducible refine (laws_eqParamS.calls k _ _ l0_1 _ _ l1_1 true _ (cb HR0_1) HC0_1.out (cb HR1_1) HC1_1.out A4.out).mono ?_); rintro e w30 ⟨rfl, hb⟩; refine ⟨_, rfl, ?_⟩; replace BK187 := bb BK187 hb; replace BK188 := bb BK188 hb; replace HB := bs w hb; (try clear hb); obtain ⟨y31a, y31b, y31c, y31d, y31e, v31a, v31b, v31c, v31d, v31e⟩ := cl5 BK187.out; obtain ⟨y32a, y32b, y32c, y32d, y32e, v32a, v32b, v32c, v32d, v32e⟩ := cl5 BK188.out))
  go_ret
  exact ⟨ez, be w⟩
 rw [if_pos c7] at H; have c7b0 : (a0_3 == a1_3) = true := beq_iff_eq.mpr c7; have c7b1 : (a0_3 != a1_3) = false := bne_eq_false_iff_eq.mpr c7; clear c7
 by_cases c8 : a0_4 = a1_4
 rotate_left
 ·
  rw [if_neg c8] at H; have c8b0 : (a0_4 == a1_4) = false := beq_eq_false_iff_ne.mpr c8; have c8b1 : (a0_4 != a1_4) = true := bne_iff_ne.mpr c8; obtain rfl := sj H; go_enter Tryz.func69, Tryz.ntmps69
  go_wp2_with (first | ((with_reducible refine gate_dst (N := 2) rfl ?_); refine bxe 2 #[.string a0_0, .slice A0_1 l0_1.length c0_1, .int .i64 a0_2, .int .i64 a0_3, .int .i64 a0_4] 56 ?_; intro gb187 hg w17 BK187 hb; have GW187 := As.mk (gs w hg); replace HB := bs w hb; clear hb hg) | ((with_reducible refine gate_dst (N := 3) rfl ?_); refine bxe 3 #[.string a1_0, .slice A1_1 l1_1.length c1_1, .int .i64 a1_2, .int .i64 a1_3, .int .i64 a1_4] 56 ?_; intro gb188 hg w18 BK188 hb; have GW188 := As.mk (gs w hg); replace HB := bs w hb; have NB187_188 := As.mk (nl hg (bx BK187.out)); have NB188_187 := As.mk (ng hg (bx BK187.out)); replace BK187 := bb BK187 hb; clear hb hg; have hnb19 := NB187_188.out; have hnc19 := NB188_187.out; obtain ⟨y20a, y20b, y20c, y20d, y20e, v20a, v20b, v20c, v20d, v20e⟩ := cl5 BK187.out; obtain ⟨y21a, y21b, y21c, y21d, y21e, v21a, v21b, v21c, v21d, v21e⟩ := cl5 BK188.out) | ((with_reducible refine gate_callee (f := 94) rfl ?_); refine goL (some 14) Tryz.func94 #[.slice A0_1 l0_1.length c0_1, .slice A1_1 l1_1.length c1_1] ?_; (with_reducible refine (laws_eqParamS.calls k _ _ l0_1 _ _ l1_1 true _ (cb HR0_1) HC0_1.out (cb HR1_1) HC1_1.out A4.out).mono ?_); rintro e w22 ⟨rfl, hb⟩; refine ⟨_, rfl, ?_⟩; replace BK187 := bb BK187 hb; replace BK188 := bb BK188 hb; replace HB := bs w hb; (try clear hb); obtain ⟨y23a, y23b, y23c, y23d, y23e, v23a, v23b, v23c, v23d, v23e⟩ := cl5 BK187.out; obtain ⟨y24a, y24b, y24c, y24d, y24e, v24a, v24b, v24c, v24d, v24e⟩ := cl5 BK188.out))
  go_ret
  exact ⟨ez, be w⟩
 rw [if_pos c8] at H; have c8b0 : (a0_4 == a1_4) = true := beq_iff_eq.mpr c8; have c8b1 : (a0_4 != a1_4) = false := bne_eq_false_iff_eq.mpr c8; clear c8; obtain rfl := sj H; go_enter Tryz.func69, Tryz.ntmps69
 go_wp2_with (first | ((with_reducible refine gate_dst (N := 2) rfl ?_); refine bxe 2 #[.string a0_0, .slice A0_1 l0_1.length c0_1, .int .i64 a0_2, .int .i64 a0_3, .int .i64 a0_4] 56 ?_; intro gb187 hg w9 BK187 hb; have GW187 := As.mk (gs w hg); replace HB := bs w hb; clear hb hg) | ((with_reducible refine gate_dst (N := 3) rfl ?_); refine bxe 3 #[.string a1_0, .slice A1_1 l1_1.length c1_1, .int .i64 a1_2, .int .i64 a1_3, .int .i64 a1_4] 56 ?_; intro gb188 hg w10 BK188 hb; have GW188 := As.mk (gs w hg); replace HB := bs w hb; have NB187_188 := As.mk (nl hg (bx BK187.out)); have NB188_187 := As.mk (ng hg (bx BK187.out)); replace BK187 := bb BK187 hb; clear hb hg; have hnb11 := NB187_188.out; have hnc11 := NB188_187.out; obtain ⟨y12a, y12b, y12c, y12d, y12e, v12a, v12b, v12c, v12d, v12e⟩ := cl5 BK187.out; obtain ⟨y13a, y13b, y13c, y13d, y13e, v13a, v13b, v13c, v13d, v13e⟩ := cl5 BK188.out) | ((with_reducible refine gate_callee (f := 94) rfl ?_); refine goL (some 14) Tryz.func94 #[.slice A0_1 l0_1.length c0_1, .slice A1_1 l1_1.length c1_1] ?_; (with_reducible refine (laws_eqParamS.calls k _ _ l0_1 _ _ l1_1 true _ (cb HR0_1) HC0_1.out (cb HR1_1) HC1_1.out A4.out).mono ?_); rintro e w14 ⟨rfl, hb⟩; refine ⟨_, rfl, ?_⟩; replace BK187 := bb BK187 hb; replace BK188 := bb BK188 hb; replace HB := bs w hb; (try clear hb); obtain ⟨y15a, y15b, y15c, y15d, y15e, v15a, v15b, v15c, v15d, v15e⟩ := cl5 BK187.out; obtain ⟨y16a, y16b, y16c, y16d, y16e, v16a, v16b, v16c, v16d, v16e⟩ := cl5 BK188.out))
 go_ret
 exact ⟨ez, be w⟩
/-! ### laws_eqFnS: function 39 -/
def laws_eqFnS.l0 : Nat → List (S56) → List (S56) → Int → Option (Bool)
 | 0, _, _, _ => none
 | k + 1, x0, x1, x5 => if x5 < (x0.length : Int) then (if 0 ≤ x5 then (if x5 < (x1.length : Int) then ((laws_eqFn.f k ((rd_T56 x0 x5).f0) ((rd_T56 x0 x5).f1) ((rd_T56 x0 x5).f2) ((rd_T56 x0 x5).f3) ((rd_T56 x0 x5).f4) ((rd_T56 x1 x5).f0) ((rd_T56 x1 x5).f1) ((rd_T56 x1 x5).f2) ((rd_T56 x1 x5).f3) ((rd_T56 x1 x5).f4)).bind fun t192 => (if t192 = true then (laws_eqFnS.l0 k x0 x1 (wrap64 (x5 + 1))) else (some false))) else (none)) else (none)) else (some true)
def laws_eqFnS.f (k : Nat) (l0 : List (S56)) (l1 : List (S56)) : Option (Bool) := if (l0.length : Int) = (l1.length : Int) then (laws_eqFnS.l0 k l0 l1 0) else (some false)
theorem laws_eqFnS.mono_l : ∀ k, (∀ y0 y1 y2, LeO (laws_eqFnS.l0 k y0 y1 y2) (laws_eqFnS.l0 (k + 1) y0 y1 y2))
 | 0 => fun _ _ _ r h => by simp [laws_eqFnS.l0] at h
 | k + 1 => by
  have ih0 := laws_eqFnS.mono_l k
  ·
   intro y0 y1 y2
   unfold laws_eqFnS.l0
   with_reducible repeat' first | exact ih0 _ _ _ | exact laws_eqFn.mono _ _ _ _ _ _ _ _ _ _ _ | exact LeO.refl _ | exact LeO.none _ | refine LeO.ite ?_ ?_ | refine LeO.bind ?_ (fun _ => ?_)
theorem laws_eqFnS.mono : ∀ a0 a1 k, LeO (laws_eqFnS.f k a0 a1) (laws_eqFnS.f (k + 1) a0 a1) := by
 intro a0 a1 k; have ih0 := laws_eqFnS.mono_l k
 unfold laws_eqFnS.f
 with_reducible repeat' first | exact ih0 _ _ _ | exact laws_eqFn.mono _ _ _ _ _ _ _ _ _ _ _ | exact LeO.refl _ | exact LeO.none _ | refine LeO.ite ?_ ?_ | refine LeO.bind ?_ (fun _ => ?_)
def laws_eqFnS.T6 : Bool × List (List Nat × List Nat) := (true, [([], []), ([], []), ([0, 1], [0, 1]), ([2], [2]), ([], []), ([], []), ([4, 5], [4, 5]), ([6], [6]), ([3, 7], [3, 7]), ([8], [8])])
def laws_eqFnS.B6 : List Nat := [0, 0, 3, 7, 0, 0, 48, 112, 255, 511]
theorem laws_eqFnS.tab6 : rtab .any (opsOf Tryz.f39 6) = laws_eqFnS.T6 := by kernel_rfl
theorem laws_eqFnS.bits6 : waitsOk laws_eqFnS.T6.2 laws_eqFnS.B6 = true := by kernel_rfl
set_option maxHeartbeats 8000000 in
set_option maxRecDepth 100000 in
theorem laws_eqFnS.calls (k : Nat) (A0 : Option Addr) (c0 : Nat) (l0 : List (S56)) (A1 : Option Addr) (c1 : Nat) (l1 : List (S56)) (r : Bool) (w : World) (hr0 : Kd.C k56 w A0 l0.length l0) (hc0 : l0.length ≤ c0) (hr1 : Kd.C k56 w A1 l1.length l1) (hc1 : l1.length ≤ c1) (h : laws_eqFnS.f k l0 l1 = some r) :
  Calls Tryz.prog 39 #[.slice A0 l0.length c0, .slice A1 l1.length c1] w fun e w' => e = .returned (.bool r) ∧ Below w.heap.size w w' := by
 have hu56 := Tryz.underlying56; have HR0 := As.mk hr0; have HC0 := As.mk hc0; clear hr0 hc0; have HR1 := As.mk hr1; have HC1 := As.mk hc1; clear hr1 hc1; have HB := As.mk (Below.refl w.heap.size w); have H : (if (l0.length : Int) = (l1.length : Int) then (laws_eqFnS.l0 k l0 l1 0) else (some false)) = some r := h; clear h
 by_cases c3 : (l0.length : Int) = (l1.length : Int)
 rotate_left
 ·
  rw [if_neg c3] at H; have c3b0 : ((l0.length : Int) == (l1.length : Int)) = false := beq_eq_false_iff_ne.mpr c3; have c3b1 : ((l0.length : Int) != (l1.length : Int)) = true := bne_iff_ne.mpr c3
  have c3b2 : (l0.length == l1.length) = false := by first | simpa using c3 | (simp at c3 ⊢; omega)
  obtain rfl := sj H; go_enter Tryz.func39, Tryz.ntmps39
  go_wp2
  go_ret
  exact ⟨ez, be w⟩

 rw [if_pos c3] at H; have c3b0 : ((l0.length : Int) == (l1.length : Int)) = true := beq_iff_eq.mpr c3; have c3b1 : ((l0.length : Int) != (l1.length : Int)) = false := bne_eq_false_iff_eq.mpr c3
 have c3b2 : (l0.length == l1.length) = true := by first | simpa using c3 | (simp at c3 ⊢; omega)
 clear c3; have H' := As.mk H; clear H; go_enter Tryz.func39, Tryz.ntmps39
 go_wp2
 go_loopg [5] k (fun kq v5 w' => ∃ (x5_1 : Int), v5 = .int .i64 x5_1 ∧ As (laws_eqFnS.l0 kq l0 l1 x5_1 = some r) ∧ As (kq ≤ k) ∧ As (Below w.heap.size w w'))
 case atStart => exact ⟨(0), (by first | rfl | (simp; done) | (simp [*]; done)), H', ⟨Nat.le_refl _⟩, ⟨be w⟩⟩
 case round =>
  clear H'; (try clear c3); (try clear c3b0); (try clear c3b1); (try clear c3b2); obtain ⟨x5_1, rfl, HA, HK1, HB⟩ := hrel
  cases gk with
  | zero => exact absurd HA.out (by simp [laws_eqFnS.l0])
  | succ k1 =>
   have H := HA.out; clear HA
   simp only [laws_eqFnS.l0] at H
   by_cases c4 : x5_1 < (l0.length : Int)
   rotate_left
   ·
    rw [if_neg c4] at H; have c4b0 := decide_eq_false c4; clear c4; obtain rfl := sj H
    go_wp2
    go_ret
    exact ⟨ez, be w⟩
   rw [if_pos c4] at H; have c4b0 := decide_eq_true c4; clear c4; replace H := ia H; obtain ⟨c5b0, H⟩ := H; replace H := ia H; obtain ⟨c6b0, H⟩ := H; replace H := bo H; obtain ⟨t192, A7, H⟩ := H
   by_cases c8 : t192 = true
   ·
    subst c8; rw [if_pos rfl] at H; have H' := As.mk H; clear H
    try go_wp2
    replace HB := As.mk (below_drew1 HB.out); have p190 : 0 ≤ (x5_1 : Int) := od; have q190 : x5_1 < (l0.length : Int) := od; obtain ⟨ad190, A190_1, c190_1, e190, x190a, x190b, x190c, x190d, x190e, hl190_1, hi190_1⟩ := at_T56 HR0.out x5_1 p190 q190; have hw190_4 := x190e; have hw190_3 := x190d; have hw190_2 := x190c; have hw190_1 := x190b; have hw190_0 := x190a; cases e190; replace x190a := ce HB.out x190a; replace x190b := ce HB.out x190b; replace x190c := ce HB.out x190c; replace x190d := ce HB.out x190d; replace x190e := ce HB.out x190e; have HR190_1 := As.mk hi190_1; have HC190_1 := As.mk hl190_1; clear hi190_1 hl190_1; replace p190 := eq_true p190; replace q190 := eq_true q190; have p191 : 0 ≤ (x5_1 : Int) := od; have q191 : x5_1 < (l1.length : Int) := od; obtain ⟨ad191, A191_1, c191_1, e191, x191a, x191b, x191c, x191d, x191e, hl191_1, hi191_1⟩ := at_T56 HR1.out x5_1 p191 q191; have hw191_4 := x191e; have hw191_3 := x191d; have hw191_2 := x191c; have hw191_1 := x191b; have hw191_0 := x191a; cases e191; replace x191a := ce HB.out x191a; replace x191b := ce HB.out x191b; replace x191c := ce HB.out x191c; replace x191d := ce HB.out x191d; replace x191e := ce HB.out x191e; have HR191_1 := As.mk hi191_1; have HC191_1 := As.mk hl191_1; clear hi191_1 hl191_1; replace p191 := eq_true p191; replace q191 := eq_true q191
    refine start_ (n := 10) (S := _) (ds := []) #[O,O,O,O,O,O,O,O,O,O] (by kernel_rfl) rfl rfl (ba (cf hw190_0) (ba (cf hw190_1) (ba (cf hw190_2) (ba (cf hw190_3) (ba (cf hw190_4) (ba (cf hw191_0) (ba (cf hw191_1) (ba (cf hw191_2) (ba (cf hw191_3) (cf hw191_4)))))))))) (fun hHeld => ?_); refine with_tabW laws_eqFnS.tab6 laws_eqFnS.bits6 (fun HT_ HW_ => ?_)
    generalize wr.drew = w9 at HB HR190_1 HR191_1 x190a x190b x190c x190d x190e x191a x191b x191c x191d x191e hHeld ⊢
    refine pq 0 17 HT_ _ _ ?_; refine pq 1 18 HT_ _ _ ?_; refine pq 2 19 HT_ _ _ ?_; refine pq 4 21 HT_ _ _ ?_; refine pq 5 22 HT_ _ _ ?_; refine pq 6 23 HT_ _ _ ?_; refine tq_c1c1c1c1c1c1c1c1c1c1 3 20 HT_ HW_.out hHeld _ _ ?_; refine tq_c1c1c1c1c1c1c1c1c1c1 7 24 HT_ HW_.out hHeld _ _ ?_; refine on 8 (some 25) HT_ (fun K hK => ?_); refine goS Tryz.func69 #[.agg #[.string ((rd_T56 l0 x5_1).f0), .slice A190_1 ((rd_T56 l0 x5_1).f1).length c190_1, .int .i64 ((rd_T56 l0 x5_1).f2), .int .i64 ((rd_T56 l0 x5_1).f3), .int .i64 ((rd_T56 l0 x5_1).f4)], .agg #[.string ((rd_T56 l1 x5_1).f0), .slice A191_1 ((rd_T56 l1 x5_1).f1).length c191_1, .int .i64 ((rd_T56 l1 x5_1).f2), .int .i64 ((rd_T56 l1 x5_1).f3), .int .i64 ((rd_T56 l1 x5_1).f4)]] ?_
    with_reducible refine (laws_eqFn.calls k1 ((rd_T56 l0 x5_1).f0) _ _ ((rd_T56 l0 x5_1).f1) ((rd_T56 l0 x5_1).f2) ((rd_T56 l0 x5_1).f3) ((rd_T56 l0 x5_1).f4) ((rd_T56 l1 x5_1).f0) _ _ ((rd_T56 l1 x5_1).f1) ((rd_T56 l1 x5_1).f2) ((rd_T56 l1 x5_1).f3) ((rd_T56 l1 x5_1).f4) true _ ?side1 ?side2 ?side3 ?side4 A7.out).mono ?_
    (case side1 => exact Kd.C_below HR190_1.out (be w))
    (case side2 => exact HC190_1.out)
    (case side3 => exact Kd.C_below HR191_1.out (be w))
    (case side4 => exact HC191_1.out)
    rintro e w10 ⟨rfl, hb⟩
    refine ⟨_, rfl, ?_⟩
    replace HB := bs w hb; (try clear hb); (try clear hb2); (try clear hk); (try clear hi)
    refine hK.out _ _ (ba (cf hw190_0) (ba (cf hw190_1) (ba (cf hw190_2) (ba (cf hw190_3) (ba (cf hw190_4) (ba (cf hw191_0) (ba (cf hw191_1) (ba (cf hw191_2) (ba (cf hw191_3) (cf hw191_4)))))))))) (fun hHeld => ?_)
    clear hK K; refine nm _ ?_; refine pq 9 26 HT_ _ _ ?_
    refine done_ (done_of HT_.out (by kernel_rfl)) ?_
    try go_wp2
    go_roundg k1
    case measure => have := HK1.out; omega
    case rel => exact ⟨(wrap64 (x5_1 + 1)), (by first | rfl | (simp; done) | (simp [*]; done)), H', ⟨by have := HK1.out; omega⟩, ⟨be w⟩⟩
   replace c8 := Bool.eq_false_iff.mpr c8; subst c8; rw [if_neg ft] at H; obtain rfl := sj H
   try go_wp2
   replace HB := As.mk (below_drew1 HB.out); have p190 : 0 ≤ (x5_1 : Int) := od; have q190 : x5_1 < (l0.length : Int) := od; obtain ⟨ad190, A190_1, c190_1, e190, x190a, x190b, x190c, x190d, x190e, hl190_1, hi190_1⟩ := at_T56 HR0.out x5_1 p190 q190; have hw190_4 := x190e; have hw190_3 := x190d; have hw190_2 := x190c; have hw190_1 := x190b; have hw190_0 := x190a; cases e190; replace x190a := ce HB.out x190a; replace x190b := ce HB.out x190b; replace x190c := ce HB.out x190c; replace x190d := ce HB.out x190d; replace x190e := ce HB.out x190e; have HR190_1 := As.mk hi190_1; have HC190_1 := As.mk hl190_1; clear hi190_1 hl190_1; replace p190 := eq_true p190; replace q190 := eq_true q190; have p191 : 0 ≤ (x5_1 : Int) := od; have q191 : x5_1 < (l1.length : Int) := od; obtain ⟨ad191, A191_1, c191_1, e191, x191a, x191b, x191c, x191d, x191e, hl191_1, hi191_1⟩ := at_T56 HR1.out x5_1 p191 q191; have hw191_4 := x191e; have hw191_3 := x191d; have hw191_2 := x191c; have hw191_1 := x191b; have hw191_0 := x191a; cases e191; replace x191a := ce HB.out x191a; replace x191b := ce HB.out x191b; replace x191c := ce HB.out x191c; replace x191d := ce HB.out x191d; replace x191e := ce HB.out x191e; have HR191_1 := As.mk hi191_1; have HC191_1 := As.mk hl191_1; clear hi191_1 hl191_1; replace p191 := eq_true p191; replace q191 := eq_true q191
   refine start_ (n := 10) (S := _) (ds := []) #[O,O,O,O,O,O,O,O,O,O] (by kernel_rfl) rfl rfl (ba (cf hw190_0) (ba (cf hw190_1) (ba (cf hw190_2) (ba (cf hw190_3) (ba (cf hw190_4) (ba (cf hw191_0) (ba (cf hw191_1) (ba (cf hw191_2) (ba (cf hw191_3) (cf hw191_4)))))))))) (fun hHeld => ?_); refine with_tabW laws_eqFnS.tab6 laws_eqFnS.bits6 (fun HT_ HW_ => ?_)
   generalize wr.drew = w11 at HB HR190_1 HR191_1 x190a x190b x190c x190d x190e x191a x191b x191c x191d x191e hHeld ⊢
   refine pq 0 17 HT_ _ _ ?_; refine pq 1 18 HT_ _ _ ?_; refine pq 2 19 HT_ _ _ ?_; refine pq 4 21 HT_ _ _ ?_; refine pq 5 22 HT_ _ _ ?_; refine pq 6 23 HT_ _ _ ?_; refine tq_c1c1c1c1c1c1c1c1c1c1 3 20 HT_ HW_.out hHeld _ _ ?_; refine tq_c1c1c1c1c1c1c1c1c1c1 7 24 HT_ HW_.out hHeld _ _ ?_; refine on 8 (some 25) HT_ (fun K hK => ?_); refine goS Tryz.func69 #[.agg #[.string ((rd_T56 l0 x5_1).f0), .slice A190_1 ((rd_T56 l0 x5_1).f1).length c190_1, .int .i64 ((rd_T56 l0 x5_1).f2), .int .i64 ((rd_T56 l0 x5_1).f3), .int .i64 ((rd_T56 l0 x5_1).f4)], .agg #[.string ((rd_T56 l1 x5_1).f0), .slice A191_1 ((rd_T56 l1 x5_1).f1).length c191_1, .int .i64 ((rd_T56 l1 x5_1).f2), .int .i64 ((rd_T56 l1 x5_1).f3), .int .i64 ((rd_T56 l1 x5_1).f4)]] ?_
   with_reducible refine (laws_eqFn.calls k1 ((rd_T56 l0 x5_1).f0) _ _ ((rd_T56 l0 x5_1).f1) ((rd_T56 l0 x5_1).f2) ((rd_T56 l0 x5_1).f3) ((rd_T56 l0 x5_1).f4) ((rd_T56 l1 x5_1).f0) _ _ ((rd_T56 l1 x5_1).f1) ((rd_T56 l1 x5_1).f2) ((rd_T56 l1 x5_1).f3) ((rd_T56 l1 x5_1).f4) false _ ?side1 ?side2 ?side3 ?side4 A7.out).mono ?_
   (case side1 => exact Kd.C_below HR190_1.out (be w))
   (case side2 => exact HC190_1.out)
   (case side3 => exact Kd.C_below HR191_1.out (be w))
   (case side4 => exact HC191_1.out)
   rintro e w12 ⟨rfl, hb⟩
   refine ⟨_, rfl, ?_⟩
   replace HB := bs w hb; (try clear hb); (try clear hb2); (try clear hk); (try clear hi)
   refine hK.out _ _ (ba (cf hw190_0) (ba (cf hw190_1) (ba (cf hw190_2) (ba (cf hw190_3) (ba (cf hw190_4) (ba (cf hw191_0) (ba (cf hw191_1) (ba (cf hw191_2) (ba (cf hw191_3) (cf hw191_4)))))))))) (fun hHeld => ?_)
   clear hK K; refine nm _ ?_; refine pq 9 26 HT_ _ _ ?_
   refine done_ (done_of HT_.out (by kernel_rfl)) ?_
   try go_wp2
   go_ret
   exact ⟨ez, be w⟩
/-! ### laws_eqProgram: function 14 -/
def laws_eqProgram.f (k : Nat) (l0_0 : List (S62)) (l0_1 : List (S56)) (l1_0 : List (S62)) (l1_1 : List (S56)) : Option (Bool) := (laws_eqNodeS.f k l0_0 l1_0).bind fun t195 => (if t195 = true then ((laws_eqFnS.f k l0_1 l1_1).bind fun t196 => (if t196 = true then (some true) else (some false))) else (some false))
theorem laws_eqProgram.mono : ∀ a0 a1 a2 a3 k, LeO (laws_eqProgram.f k a0 a1 a2 a3) (laws_eqProgram.f (k + 1) a0 a1 a2 a3) := by
 intro a0 a1 a2 a3 k
 unfold laws_eqProgram.f
 with_reducible repeat' first | exact laws_eqFnS.mono _ _ _ | exact laws_eqNodeS.mono _ _ _ | exact LeO.refl _ | exact LeO.none _ | refine LeO.ite ?_ ?_ | refine LeO.bind ?_ (fun _ => ?_)
set_option maxHeartbeats 8000000 in
set_option maxRecDepth 100000 in
theorem laws_eqProgram.calls (k : Nat) (A0_0 : Option Addr) (c0_0 : Nat) (l0_0 : List (S62)) (A0_1 : Option Addr) (c0_1 : Nat) (l0_1 : List (S56)) (A1_0 : Option Addr) (c1_0 : Nat) (l1_0 : List (S62)) (A1_1 : Option Addr) (c1_1 : Nat) (l1_1 : List (S56)) (r : Bool) (w : World) (hr0_0 : Kd.C k62 w A0_0 l0_0.length l0_0) (hc0_0 : l0_0.length ≤ c0_0) (hr0_1 : Kd.C k56 w A0_1 l0_1.length l0_1) (hc0_1 : l0_1.length ≤ c0_1) (hr1_0 : Kd.C k62 w A1_0 l1_0.length l1_0) (hc1_0 : l1_0.length ≤ c1_0) (hr1_1 : Kd.C k56 w A1_1 l1_1.length l1_1) (hc1_1 : l1_1.length ≤ c1_1) (h : laws_eqProgram.f k l0_0 l0_1 l1_0 l1_1 = some r) :
  Calls Tryz.prog 14 #[.agg #[.slice A0_0 l0_0.length c0_0, .slice A0_1 l0_1.length c0_1], .agg #[.slice A1_0 l1_0.length c1_0, .slice A1_1 l1_1.length c1_1]] w fun e w' => e = .returned (.bool r) ∧ Below w.heap.size w w' := by
 have hu32 := Tryz.underlying32; have HR0_0 := As.mk hr0_0; have HC0_0 := As.mk hc0_0; clear hr0_0 hc0_0; have HR0_1 := As.mk hr0_1; have HC0_1 := As.mk hc0_1; clear hr0_1 hc0_1; have HR1_0 := As.mk hr1_0; have HC1_0 := As.mk hc1_0; clear hr1_0 hc1_0; have HR1_1 := As.mk hr1_1; have HC1_1 := As.mk hc1_1; clear hr1_1 hc1_1; have HB := As.mk (Below.refl w.heap.size w); have H : ((laws_eqNodeS.f k l0_0 l1_0).bind fun t195 => (if t195 = true then ((laws_eqFnS.f k l0_1 l1_1).bind fun t196 => (if t196 = true then (some true) else (some false))) else (some false))) = some r := h; clear h; replace H := bo H; obtain ⟨t195, A3, H⟩ := H
 by_cases c4 : t195 = true
 rotate_left
 ·
  replace c4 := Bool.eq_false_iff.mpr c4; subst c4; rw [if_neg ft] at H; obtain rfl := sj H; go_enter Tryz.func14, Tryz.ntmps14
  go_wp2_with (first | ((with_reducible refine gate_dst (N := 2) rfl ?_); refine bxe 2 #[.slice A0_0 l0_0.length c0_0, .slice A0_1 l0_1.length c0_1] 32 ?_; intro gb193 hg w25 BK193 hb; have GW193 := As.mk (gs w hg); replace HB := bs w hb; clear hb hg) | ((with_reducible refine gate_dst (N := 3) rfl ?_); refine bxe 3 #[.slice A1_0 l1_0.length c1_0, .slice A1_1 l1_1.length c1_1] 32 ?_; intro gb194 hg w26 BK194 hb; have GW194 := As.mk (gs w hg); replace HB := bs w hb; have NB193_194 := As.mk (nl hg (bx BK193.out)); have NB194_193 := As.mk (ng hg (bx BK193.out)); replace BK193 := bb BK193 hb; clear hb hg; have hnb27 := NB193_194.out; have hnc27 := NB194_193.out; obtain ⟨y28a, y28b, v28a, v28b⟩ := cl2 BK193.out; obtain ⟨y29a, y29b, v29a, v29b⟩ := cl2 BK194.out) | ((with_reducible refine gate_callee (f := 38) rfl ?_); refine goL (some 9) Tryz.func38 #[.slice A0_0 l0_0.length c0_0, .slice A1_0 l1_0.length c1_0] ?_; (with_reducible refine (laws_eqNodeS.calls k _ _ l0_0 _ _ l1_0 false _ (cb HR0_0) HC0_0.out (cb HR1_0) HC1_0.out A3.out).mono ?_); rintro e w30 ⟨rfl, hb⟩; refine ⟨_, rfl, ?_⟩; replace HB := bs w hb; (try clear hb)))
  go_ret
  exact ⟨ez, be w⟩

 subst c4; rw [if_pos rfl] at H; replace H := bo H; obtain ⟨t196, A5, H⟩ := H
 by_cases c6 : t196 = true
 ·
  subst c6; rw [if_pos rfl] at H; obtain rfl := sj H; go_enter Tryz.func14, Tryz.ntmps14
  go_wp2_with (first | ((with_reducible refine gate_dst (N := 2) rfl ?_); refine bxe 2 #[.slice A0_0 l0_0.length c0_0, .slice A0_1 l0_1.length c0_1] 32 ?_; intro gb193 hg w7 BK193 hb; have GW193 := As.mk (gs w hg); replace HB := bs w hb; clear hb hg) | ((with_reducible refine gate_dst (N := 3) rfl ?_); refine bxe 3 #[.slice A1_0 l1_0.length c1_0, .slice A1_1 l1_1.length c1_1] 32 ?_; intro gb194 hg w8 BK194 hb; have GW194 := As.mk (gs w hg); replace HB := bs w hb; have NB193_194 := As.mk (nl hg (bx BK193.out)); have NB194_193 := As.mk (ng hg (bx BK193.out)); replace BK193 := bb BK193 hb; clear hb hg; have hnb9 := NB193_194.out; have hnc9 := NB194_193.out; obtain ⟨y10a, y10b, v10a, v10b⟩ := cl2 BK193.out; obtain ⟨y11a, y11b, v11a, v11b⟩ := cl2 BK194.out) | ((with_reducible refine gate_callee (f := 38) rfl ?_); refine goL (some 9) Tryz.func38 #[.slice A0_0 l0_0.length c0_0, .slice A1_0 l1_0.length c1_0] ?_; (with_reducible refine (laws_eqNodeS.calls k _ _ l0_0 _ _ l1_0 true _ (cb HR0_0) HC0_0.out (cb HR1_0) HC1_0.out A3.out).mono ?_); rintro e w12 ⟨rfl, hb⟩; refine ⟨_, rfl, ?_⟩; replace BK193 := bb BK193 hb; replace BK194 := bb BK194 hb; replace HB := bs w hb; (try clear hb); obtain ⟨y13a, y13b, v13a, v13b⟩ := cl2 BK193.out; obtain ⟨y14a, y14b, v14a, v14b⟩ := cl2 BK194.out) | ((with_reducible refine gate_callee (f := 39) rfl ?_); refine goL (some 15) Tryz.func39 #[.slice A0_1 l0_1.length c0_1, .slice A1_1 l1_1.length c1_1] ?_; (with_reducible refine (laws_eqFnS.calls k _ _ l0_1 _ _ l1_1 true _ (cb HR0_1) HC0_1.out (cb HR1_1) HC1_1.out A5.out).mono ?_); rintro e w15 ⟨rfl, hb⟩; refine ⟨_, rfl, ?_⟩; replace HB := bs w hb; (try clear hb)))
  go_ret
  exact ⟨ez, be w⟩
 replace c6 := Bool.eq_false_iff.mpr c6; subst c6; rw [if_neg ft] at H; obtain rfl := sj H; go_enter Tryz.func14, Tryz.ntmps14
 go_wp2_with (first | ((with_reducible refine gate_dst (N := 2) rfl ?_); refine bxe 2 #[.slice A0_0 l0_0.length c0_0, .slice A0_1 l0_1.length c0_1] 32 ?_; intro gb193 hg w16 BK193 hb; have GW193 := As.mk (gs w hg); replace HB := bs w hb; clear hb hg) | ((with_reducible refine gate_dst (N := 3) rfl ?_); refine bxe 3 #[.slice A1_0 l1_0.length c1_0, .slice A1_1 l1_1.length c1_1] 32 ?_; intro gb194 hg w17 BK194 hb; have GW194 := As.mk (gs w hg); replace HB := bs w hb; have NB193_194 := As.mk (nl hg (bx BK193.out)); have NB194_193 := As.mk (ng hg (bx BK193.out)); replace BK193 := bb BK193 hb; clear hb hg; have hnb18 := NB193_194.out; have hnc18 := NB194_193.out; obtain ⟨y19a, y19b, v19a, v19b⟩ := cl2 BK193.out; obtain ⟨y20a, y20b, v20a, v20b⟩ := cl2 BK194.out) | ((with_reducible refine gate_callee (f := 38) rfl ?_); refine goL (some 9) Tryz.func38 #[.slice A0_0 l0_0.length c0_0, .slice A1_0 l1_0.length c1_0] ?_; (with_reducible refine (laws_eqNodeS.calls k _ _ l0_0 _ _ l1_0 true _ (cb HR0_0) HC0_0.out (cb HR1_0) HC1_0.out A3.out).mono ?_); rintro e w21 ⟨rfl, hb⟩; refine ⟨_, rfl, ?_⟩; replace BK193 := bb BK193 hb; replace BK194 := bb BK194 hb; replace HB := bs w hb; (try clear hb); obtain ⟨y22a, y22b, v22a, v22b⟩ := cl2 BK193.out; obtain ⟨y23a, y23b, v23a, v23b⟩ := cl2 BK194.out) | ((with_reducible refine gate_callee (f := 39) rfl ?_); refine goL (some 15) Tryz.func39 #[.slice A0_1 l0_1.length c0_1, .slice A1_1 l1_1.length c1_1] ?_; (with_reducible refine (laws_eqFnS.calls k _ _ l0_1 _ _ l1_1 false _ (cb HR0_1) HC0_1.out (cb HR1_1) HC1_1.out A5.out).mono ?_); rintro e w24 ⟨rfl, hb⟩; refine ⟨_, rfl, ?_⟩; replace HB := bs w hb; (try clear hb)))
 go_ret
 exact ⟨ez, be w⟩
/-! ### spec_l01In: function 33 -/
def spec_l01In.f (a0 : Int) (a1 : Int) (a2 : Int) : Option (Bool) := if a0 ≥ a1 then (some (decide (a0 ≤ a2))) else (some false)
set_option maxHeartbeats 8000000 in
set_option maxRecDepth 100000 in
theorem spec_l01In.calls (a0 : Int) (a1 : Int) (a2 : Int) (r : Bool) (w : World) (h : spec_l01In.f a0 a1 a2 = some r) :
  Calls Tryz.prog 33 #[.int .i64 a0, .int .i64 a1, .int .i64 a2] w fun e w' => e = .returned (.bool r) ∧ Drawn0 w w' := by
 have H : (if a0 ≥ a1 then (some (decide (a0 ≤ a2))) else (some false)) = some r := h; clear h
 by_cases c4 : a0 ≥ a1
 ·
  rw [if_pos c4] at H; have c4b0 : decide (a1 ≤ a0) = true := decide_eq_true c4; clear c4; obtain rfl := sj H; go_enter Tryz.func33, Tryz.ntmps33
  go_wp2
  go_ret
  exact dw
 rw [if_neg c4] at H; have c4b0 : decide (a1 ≤ a0) = false := decide_eq_false c4; clear c4; obtain rfl := sj H; go_enter Tryz.func33, Tryz.ntmps33
 go_wp2
 go_ret
 exact dw

/-! ### spec_l03Letter: function 124 -/
def spec_l03Letter.f (a0 : Int) : Option (Bool) := if a0 ≥ 97 then (some (decide (a0 ≤ 122))) else (some false)
set_option maxHeartbeats 8000000 in
set_option maxRecDepth 100000 in
theorem spec_l03Letter.calls (a0 : Int) (r : Bool) (w : World) (h : spec_l03Letter.f a0 = some r) :
  Calls Tryz.prog 124 #[.int .u8 a0] w fun e w' => e = .returned (.bool r) ∧ Drawn0 w w' := by
 have H : (if a0 ≥ 97 then (some (decide (a0 ≤ 122))) else (some false)) = some r := h; clear h
 by_cases c2 : a0 ≥ 97
 ·
  rw [if_pos c2] at H; have c2b0 : decide (97 ≤ a0) = true := decide_eq_true c2; clear c2; obtain rfl := sj H; go_enter Tryz.func124, Tryz.ntmps124
  go_wp2
  go_ret
  exact dw
 rw [if_neg c2] at H; have c2b0 : decide (97 ≤ a0) = false := decide_eq_false c2; clear c2; obtain rfl := sj H; go_enter Tryz.func124, Tryz.ntmps124
 go_wp2
 go_ret
 exact dw

/-! ### spec_l03Keys: function 135 -/
def spec_l03Keys.f  : Option (List ByteArray) := some (([(⟨#[102, 110]⟩ : ByteArray), (⟨#[108, 101, 116]⟩ : ByteArray), (⟨#[105, 102]⟩ : ByteArray), (⟨#[101, 108, 115, 101]⟩ : ByteArray), (⟨#[119, 104, 105, 108, 101]⟩ : ByteArray), (⟨#[112, 114, 105, 110, 116]⟩ : ByteArray), (⟨#[100, 111]⟩ : ByteArray), (⟨#[110, 101, 119]⟩ : ByteArray), (⟨#[99, 108, 111, 110, 101]⟩ : ByteArray), (⟨#[109, 117, 116]⟩ : ByteArray), (⟨#[105, 110, 112, 117, 116]⟩ : ByteArray), (⟨#[105, 110, 116]⟩ : ByteArray), (⟨#[98, 111, 120]⟩ : ByteArray), (⟨#[114, 101, 116]⟩ : ByteArray)] : List ByteArray))
set_option maxHeartbeats 8000000 in
set_option maxRecDepth 100000 in
theorem spec_l03Keys.calls  (r : List ByteArray) (w : World) (h : spec_l03Keys.f  = some r) :
  Calls Tryz.prog 135 #[] w fun e w' => ∃ v0_ : Value, e = .returned (v0_) ∧ Kd.R Kd.string 9 w' w.heap.size (fun _ => True) v0_ r ∧ Below w.heap.size w w' := by
 have HB := As.mk (Below.refl w.heap.size w); have H : (some (([(⟨#[102, 110]⟩ : ByteArray), (⟨#[108, 101, 116]⟩ : ByteArray), (⟨#[105, 102]⟩ : ByteArray), (⟨#[101, 108, 115, 101]⟩ : ByteArray), (⟨#[119, 104, 105, 108, 101]⟩ : ByteArray), (⟨#[112, 114, 105, 110, 116]⟩ : ByteArray), (⟨#[100, 111]⟩ : ByteArray), (⟨#[110, 101, 119]⟩ : ByteArray), (⟨#[99, 108, 111, 110, 101]⟩ : ByteArray), (⟨#[109, 117, 116]⟩ : ByteArray), (⟨#[105, 110, 112, 117, 116]⟩ : ByteArray), (⟨#[105, 110, 116]⟩ : ByteArray), (⟨#[98, 111, 120]⟩ : ByteArray), (⟨#[114, 101, 116]⟩ : ByteArray)] : List ByteArray))) = some r := h; clear h
 obtain ⟨y197, hy197⟩ : ∃ y_ : List ByteArray, y_ = (([(⟨#[102, 110]⟩ : ByteArray), (⟨#[108, 101, 116]⟩ : ByteArray), (⟨#[105, 102]⟩ : ByteArray), (⟨#[101, 108, 115, 101]⟩ : ByteArray), (⟨#[119, 104, 105, 108, 101]⟩ : ByteArray), (⟨#[112, 114, 105, 110, 116]⟩ : ByteArray), (⟨#[100, 111]⟩ : ByteArray), (⟨#[110, 101, 119]⟩ : ByteArray), (⟨#[99, 108, 111, 110, 101]⟩ : ByteArray), (⟨#[109, 117, 116]⟩ : ByteArray), (⟨#[105, 110, 112, 117, 116]⟩ : ByteArray), (⟨#[105, 110, 116]⟩ : ByteArray), (⟨#[98, 111, 120]⟩ : ByteArray), (⟨#[114, 101, 116]⟩ : ByteArray)] : List ByteArray)) := ⟨_, rfl⟩
 replace H : (some y197) = some r := by first | (rw [hy197]; with_reducible exact H) | (have H2_ := (Option.bind_some _ _).symm.trans H; rw [hy197]; with_reducible exact H2_) | (have H2_ := (Option.bind_some _ _).symm.trans H; with_reducible exact H2_) | with_reducible exact H | (rw [hy197]; exact H) | exact H
 have Ny197 := As.mk hy197; clear hy197; obtain rfl := sj H; go_enter Tryz.func135, Tryz.ntmps135
 go_wp2_with (first | ((with_reducible refine gate_dst (N := 1) rfl ?_); refine Kd.R_lit Kd.string _ 9 ?hg (N := 1) ?hd (xs := ([(⟨#[102, 110]⟩ : ByteArray), (⟨#[108, 101, 116]⟩ : ByteArray), (⟨#[105, 102]⟩ : ByteArray), (⟨#[101, 108, 115, 101]⟩ : ByteArray), (⟨#[119, 104, 105, 108, 101]⟩ : ByteArray), (⟨#[112, 114, 105, 110, 116]⟩ : ByteArray), (⟨#[100, 111]⟩ : ByteArray), (⟨#[110, 101, 119]⟩ : ByteArray), (⟨#[99, 108, 111, 110, 101]⟩ : ByteArray), (⟨#[109, 117, 116]⟩ : ByteArray), (⟨#[105, 110, 112, 117, 116]⟩ : ByteArray), (⟨#[105, 110, 116]⟩ : ByteArray), (⟨#[98, 111, 120]⟩ : ByteArray), (⟨#[114, 101, 116]⟩ : ByteArray)] : List ByteArray)) (inner := [.string (⟨#[102, 110]⟩ : ByteArray), .string (⟨#[108, 101, 116]⟩ : ByteArray), .string (⟨#[105, 102]⟩ : ByteArray), .string (⟨#[101, 108, 115, 101]⟩ : ByteArray), .string (⟨#[119, 104, 105, 108, 101]⟩ : ByteArray), .string (⟨#[112, 114, 105, 110, 116]⟩ : ByteArray), .string (⟨#[100, 111]⟩ : ByteArray), .string (⟨#[110, 101, 119]⟩ : ByteArray), .string (⟨#[99, 108, 111, 110, 101]⟩ : ByteArray), .string (⟨#[109, 117, 116]⟩ : ByteArray), .string (⟨#[105, 110, 112, 117, 116]⟩ : ByteArray), .string (⟨#[105, 110, 116]⟩ : ByteArray), .string (⟨#[98, 111, 120]⟩ : ByteArray), .string (⟨#[114, 101, 116]⟩ : ByteArray)]) (ok := fun _ => True) (okp := fun _ => True) ?hr ?hp (fun _ hk => hk) trivial (Below.refl _ _) (Nat.le_refl _) (by simp) ?_; (case hd => rfl); (case hg => rfl); (case hr => first | (go_simp; done) | (go_simp; rfl)); (case hp => exact (Reps.one (show Kd.M Kd.string _ _ _ (⟨#[102, 110]⟩ : ByteArray) [.string (⟨#[102, 110]⟩ : ByteArray)] from rfl) (Reps.one (show Kd.M Kd.string _ _ _ (⟨#[108, 101, 116]⟩ : ByteArray) [.string (⟨#[108, 101, 116]⟩ : ByteArray)] from rfl) (Reps.one (show Kd.M Kd.string _ _ _ (⟨#[105, 102]⟩ : ByteArray) [.string (⟨#[105, 102]⟩ : ByteArray)] from rfl) (Reps.one (show Kd.M Kd.string _ _ _ (⟨#[101, 108, 115, 101]⟩ : ByteArray) [.string (⟨#[101, 108, 115, 101]⟩ : ByteArray)] from rfl) (Reps.one (show Kd.M Kd.string _ _ _ (⟨#[119, 104, 105, 108, 101]⟩ : ByteArray) [.string (⟨#[119, 104, 105, 108, 101]⟩ : ByteArray)] from rfl) (Reps.one (show Kd.M Kd.string _ _ _ (⟨#[112, 114, 105, 110, 116]⟩ : ByteArray) [.string (⟨#[112, 114, 105, 110, 116]⟩ : ByteArray)] from rfl) (Reps.one (show Kd.M Kd.string _ _ _ (⟨#[100, 111]⟩ : ByteArray) [.string (⟨#[100, 111]⟩ : ByteArray)] from rfl) (Reps.one (show Kd.M Kd.string _ _ _ (⟨#[110, 101, 119]⟩ : ByteArray) [.string (⟨#[110, 101, 119]⟩ : ByteArray)] from rfl) (Reps.one (show Kd.M Kd.string _ _ _ (⟨#[99, 108, 111, 110, 101]⟩ : ByteArray) [.string (⟨#[99, 108, 111, 110, 101]⟩ : ByteArray)] from rfl) (Reps.one (show Kd.M Kd.string _ _ _ (⟨#[109, 117, 116]⟩ : ByteArray) [.string (⟨#[109, 117, 116]⟩ : ByteArray)] from rfl) (Reps.one (show Kd.M Kd.string _ _ _ (⟨#[105, 110, 112, 117, 116]⟩ : ByteArray) [.string (⟨#[105, 110, 112, 117, 116]⟩ : ByteArray)] from rfl) (Reps.one (show Kd.M Kd.string _ _ _ (⟨#[105, 110, 116]⟩ : ByteArray) [.string (⟨#[105, 110, 116]⟩ : ByteArray)] from rfl) (Reps.one (show Kd.M Kd.string _ _ _ (⟨#[98, 111, 120]⟩ : ByteArray) [.string (⟨#[98, 111, 120]⟩ : ByteArray)] from rfl) (Reps.one (show Kd.M Kd.string _ _ _ (⟨#[114, 101, 116]⟩ : ByteArray) [.string (⟨#[114, 101, 116]⟩ : ByteArray)] from rfl) (Reps.none _ _)))))))))))))))); intro v198 w1 ho2 hb hg_ hnew_; clear hg_ hnew_; (first | rw [← Ny197.out] at ho2 | (simp only [Int.reduceToNat] at ho2; rw [← Ny197.out] at ho2)); have HO199 := As.mk (Kd.R_lower ho2 (below_size (be w))); replace HB := bs w hb; clear hb ho2))
 go_ret
 exact ⟨_, ez, by (with_reducible repeat (first | apply Kd.R_alloc | apply Kd.R_drewN | apply Kd.R_drew)); exact HO199.out, be w⟩

/-! ### spec_KeyWord: function 125 -/
def spec_KeyWord.l0 : Nat → ByteArray → List ByteArray → Int → Option (Bool)
 | 0, _, _, _ => none
 | k + 1, x0, x3, x4 => if x4 < (x3.length : Int) then (if 0 ≤ x4 then (if (rdOf ByteArray.empty x3 x4).toList = x0.toList then (some true) else (spec_KeyWord.l0 k x0 x3 (wrap64 (x4 + 1)))) else (none)) else (some false)
def spec_KeyWord.f (k : Nat) (a0 : ByteArray) : Option (Bool) := (spec_l03Keys.f).bind fun t200 => (spec_KeyWord.l0 k a0 t200 0)
theorem spec_KeyWord.mono_l : ∀ k, (∀ y0 y1 y2, LeO (spec_KeyWord.l0 k y0 y1 y2) (spec_KeyWord.l0 (k + 1) y0 y1 y2))
 | 0 => fun _ _ _ r h => by simp [spec_KeyWord.l0] at h
 | k + 1 => by
  have ih0 := spec_KeyWord.mono_l k
  ·
   intro y0 y1 y2
   unfold spec_KeyWord.l0
   with_reducible repeat' first | exact ih0 _ _ _ | exact LeO.refl _ | exact LeO.none _ | refine LeO.ite ?_ ?_ | refine LeO.bind ?_ (fun _ => ?_)
theorem spec_KeyWord.mono : ∀ a0 k, LeO (spec_KeyWord.f k a0) (spec_KeyWord.f (k + 1) a0) := by
 intro a0 k; have ih0 := spec_KeyWord.mono_l k
 unfold spec_KeyWord.f
 with_reducible repeat' first | exact ih0 _ _ _ | exact LeO.refl _ | exact LeO.none _ | refine LeO.ite ?_ ?_ | refine LeO.bind ?_ (fun _ => ?_)
set_option maxHeartbeats 8000000 in
set_option maxRecDepth 100000 in
theorem spec_KeyWord.calls (k : Nat) (a0 : ByteArray) (r : Bool) (w : World) (h : spec_KeyWord.f k a0 = some r) :
  Calls Tryz.prog 125 #[.string a0] w fun e w' => e = .returned (.bool r) ∧ Below w.heap.size w w' := by
 have HB := As.mk (Below.refl w.heap.size w); have H : ((spec_l03Keys.f).bind fun t200 => (spec_KeyWord.l0 k a0 t200 0)) = some r := h; clear h; replace H := bo H; obtain ⟨t200, A2, H⟩ := H; have H' := As.mk H; clear H; go_enter Tryz.func125, Tryz.ntmps125
 go_wp2_with (first | ((with_reducible refine gate_callee (f := 135) rfl ?_); refine goL (some 5) Tryz.func135 #[] ?_; (with_reducible refine (spec_l03Keys.calls  t200 _ A2.out).mono ?_); rintro e w3 ⟨v201, rfl, ho0, hb⟩; refine ⟨_, rfl, ?_⟩; have HO202 := As.mk (Kd.R_lower ho0 (below_size (be w))); replace HB := bs w hb; (try clear hb); (try clear ho0)))
 (try simp only [pk])
 go_loopg [4] k (fun kq v4 w' => ∃ (x4_1 : Int), v4 = .int .i64 x4_1 ∧ As (spec_KeyWord.l0 kq a0 t200 x4_1 = some r) ∧ As (kq ≤ k) ∧ As (Kd.R Kd.string 9 w' w.heap.size (fun _ => True) v201 t200) ∧ As (Below w.heap.size w w'))
 case atStart => exact ⟨(0), (by first | rfl | (simp; done) | (simp [*]; done)), H', ⟨Nat.le_refl _⟩, ⟨by (with_reducible repeat (first | apply Kd.R_alloc | apply Kd.R_drewN | apply Kd.R_drew)); exact HO202.out⟩, ⟨be w⟩⟩
 case round =>
  clear H'; obtain ⟨x4_1, rfl, HA, HK1, HO_3, HB⟩ := hrel
  cases gk with
  | zero => exact absurd HA.out (by simp [spec_KeyWord.l0])
  | succ k1 =>
   have H := HA.out; clear HA
   simp only [spec_KeyWord.l0] at H
   by_cases c4 : x4_1 < (t200.length : Int)
   rotate_left
   ·
    rw [if_neg c4] at H; have c4b0 := decide_eq_false c4; clear c4; obtain rfl := sj H; obtain ⟨Ao9, co9, eo9⟩ := Kd.R_slice HO_3.out; subst eo9
    go_wp2
    go_ret
    exact ⟨ez, be w⟩

   rw [if_pos c4] at H; have c4b0 := decide_eq_true c4; clear c4; replace H := ia H; obtain ⟨c5b0, H⟩ := H
   by_cases c6 : (rdOf ByteArray.empty t200 x4_1).toList = a0.toList
   ·
    rw [if_pos c6] at H; have c6b0 : ((rdOf ByteArray.empty t200 x4_1).toList == a0.toList) = true := beq_iff_eq.mpr c6; have c6b1 : ((rdOf ByteArray.empty t200 x4_1).toList != a0.toList) = false := bne_eq_false_iff_eq.mpr c6; clear c6; obtain rfl := sj H; obtain ⟨Ao7, co7, eo7⟩ := Kd.R_slice HO_3.out; subst eo7; have p203 : 0 ≤ (x4_1 : Int) := od; have q203 : x4_1 < (t200.length : Int) := od; obtain ⟨ad203, e203, x203a⟩ := Kd.at_string (Kd.R_reads' HO_3.out).2.2 x4_1 p203 q203; cases e203; replace p203 := eq_true p203; replace q203 := eq_true q203
    go_wp2
    go_ret
    exact ⟨ez, be w⟩
   rw [if_neg c6] at H; have c6b0 : ((rdOf ByteArray.empty t200 x4_1).toList == a0.toList) = false := beq_eq_false_iff_ne.mpr c6; have c6b1 : ((rdOf ByteArray.empty t200 x4_1).toList != a0.toList) = true := bne_iff_ne.mpr c6; have H' := As.mk H; clear H; obtain ⟨Ao8, co8, eo8⟩ := Kd.R_slice HO_3.out; subst eo8; have p203 : 0 ≤ (x4_1 : Int) := od; have q203 : x4_1 < (t200.length : Int) := od; obtain ⟨ad203, e203, x203a⟩ := Kd.at_string (Kd.R_reads' HO_3.out).2.2 x4_1 p203 q203; cases e203; replace p203 := eq_true p203; replace q203 := eq_true q203
   go_wp2
   go_roundg k1
   case measure => have := HK1.out; omega
   case rel => exact ⟨(wrap64 (x4_1 + 1)), (by first | rfl | (simp; done) | (simp [*]; done)), H', ⟨by have := HK1.out; omega⟩, ⟨by (with_reducible repeat (first | apply Kd.R_alloc | apply Kd.R_drewN | apply Kd.R_drew)); exact HO_3.out⟩, ⟨be w⟩⟩
end Go.Proofs.YtcoapbnbakmkoaaGreatDoor.PFnExactShowProgram
