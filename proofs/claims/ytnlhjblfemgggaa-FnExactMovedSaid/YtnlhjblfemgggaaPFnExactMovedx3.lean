/- Written by a program of this session (a turned copy of the kit's print): a contract for each Go function. No condition beside those in each statement. -/
import Derived.Test.YtnlhjblfemgggaaPFnExactMovedx0
namespace Go.Proofs.Ytnlhjblfemgggaa.PFnExactMoved
open Go.RowKit Go.Proofs.YtnlhjblfemgggaaW.PrintWords Go.Proofs.YtnlhjblfemgggaaW.PrintLast Go.Proofs.YtnlhjblfemgggaaW.PrintMore
attribute [local go_sem] max2_int min2_int max_two min_two max_three min_three max_four min_four   -- for this text's walks alone
set_option linter.unusedVariables false
set_option linter.unusedSimpArgs false

/-! ### laws_szCellS: function 48 -/
def laws_szCellS.f (l0 : List (S98)) (a1 : Int) : Option (Int) := if (wrap64 (a1 - (l0.length : Int))) < 0 then (some (-1)) else (some (wrap64 (a1 - (l0.length : Int))))
set_option maxHeartbeats 8000000 in
set_option maxRecDepth 100000 in
theorem laws_szCellS.calls (A0 : Option Addr) (c0 : Nat) (l0 : List (S98)) (a1 : Int) (r : Int) (w : World) (hr0 : Kd.C k98 w A0 l0.length l0) (hc0 : l0.length ≤ c0) (h : laws_szCellS.f l0 a1 = some r) :
  Calls Try.prog 48 #[.slice A0 l0.length c0, .int .i64 a1] w fun e w' => e = .returned (.int .i64 r) ∧ Drawn0 w w' := by
 have HR0 := As.mk hr0; have HC0 := As.mk hc0; clear hr0 hc0; have H : (if (wrap64 (a1 - (l0.length : Int))) < 0 then (some (-1)) else (some (wrap64 (a1 - (l0.length : Int))))) = some r := h; clear h
 by_cases c3 : (wrap64 (a1 - (l0.length : Int))) < 0
 ·
  rw [if_pos c3] at H; have c3b0 := decide_eq_true c3; clear c3; obtain rfl := sj H; go_enter Try.func48, Try.ntmps48
  go_wp2
  go_ret
  exact dw
 rw [if_neg c3] at H; have c3b0 := decide_eq_false c3; clear c3; obtain rfl := sj H; go_enter Try.func48, Try.ntmps48
 go_wp2
 go_ret
 exact dw

/-! ### laws_szIntS: function 49 -/
def laws_szIntS.f (l0 : List Int) (a1 : Int) : Option (Int) := if (wrap64 (a1 - (l0.length : Int))) < 0 then (some (-1)) else (some (wrap64 (a1 - (l0.length : Int))))
set_option maxHeartbeats 8000000 in
set_option maxRecDepth 100000 in
theorem laws_szIntS.calls (A0 : Option Addr) (c0 : Nat) (l0 : List Int) (a1 : Int) (r : Int) (w : World) (hr0 : Kd.C (Kd.int .i64) w A0 l0.length l0) (hc0 : l0.length ≤ c0) (h : laws_szIntS.f l0 a1 = some r) :
  Calls Try.prog 49 #[.slice A0 l0.length c0, .int .i64 a1] w fun e w' => e = .returned (.int .i64 r) ∧ Drawn0 w w' := by
 have HR0 := As.mk hr0; have HC0 := As.mk hc0; clear hr0 hc0; have H : (if (wrap64 (a1 - (l0.length : Int))) < 0 then (some (-1)) else (some (wrap64 (a1 - (l0.length : Int))))) = some r := h; clear h
 by_cases c3 : (wrap64 (a1 - (l0.length : Int))) < 0
 ·
  rw [if_pos c3] at H; have c3b0 := decide_eq_true c3; clear c3; obtain rfl := sj H; go_enter Try.func49, Try.ntmps49
  go_wp2
  go_ret
  exact dw
 rw [if_neg c3] at H; have c3b0 := decide_eq_false c3; clear c3; obtain rfl := sj H; go_enter Try.func49, Try.ntmps49
 go_wp2
 go_ret
 exact dw

/-! ### laws_szMemory: function 23 -/
def laws_szMemory.f (l0_0 : List (S98)) (l0_1 : List Int) (l0_2 : List Int) (a0_3 : Int) (a0_4 : Int) (a1 : Int) : Option (Int) := (laws_szCellS.f l0_0 a1).bind fun t155 => (if t155 < 0 then (some (-1)) else ((laws_szIntS.f l0_1 t155).bind fun t156 => (if t156 < 0 then (some (-1)) else ((laws_szIntS.f l0_2 t156).bind fun t157 => (if t157 < 0 then (some (-1)) else (some t157))))))
set_option maxHeartbeats 8000000 in
set_option maxRecDepth 100000 in
theorem laws_szMemory.calls (A0_0 : Option Addr) (c0_0 : Nat) (l0_0 : List (S98)) (A0_1 : Option Addr) (c0_1 : Nat) (l0_1 : List Int) (A0_2 : Option Addr) (c0_2 : Nat) (l0_2 : List Int) (a0_3 : Int) (a0_4 : Int) (a1 : Int) (r : Int) (w : World) (hr0_0 : Kd.C k98 w A0_0 l0_0.length l0_0) (hc0_0 : l0_0.length ≤ c0_0) (hr0_1 : Kd.C (Kd.int .i64) w A0_1 l0_1.length l0_1) (hc0_1 : l0_1.length ≤ c0_1) (hr0_2 : Kd.C (Kd.int .i64) w A0_2 l0_2.length l0_2) (hc0_2 : l0_2.length ≤ c0_2) (h : laws_szMemory.f l0_0 l0_1 l0_2 a0_3 a0_4 a1 = some r) :
  Calls Try.prog 23 #[.agg #[.slice A0_0 l0_0.length c0_0, .slice A0_1 l0_1.length c0_1, .slice A0_2 l0_2.length c0_2, .int .i64 a0_3, .int .i64 a0_4], .int .i64 a1] w fun e w' => e = .returned (.int .i64 r) ∧ Below w.heap.size w w' := by
 have hu47 := Try.underlying47; have HR0_0 := As.mk hr0_0; have HC0_0 := As.mk hc0_0; clear hr0_0 hc0_0; have HR0_1 := As.mk hr0_1; have HC0_1 := As.mk hc0_1; clear hr0_1 hc0_1; have HR0_2 := As.mk hr0_2; have HC0_2 := As.mk hc0_2; clear hr0_2 hc0_2; have HB := As.mk (Below.refl w.heap.size w); have H : ((laws_szCellS.f l0_0 a1).bind fun t155 => (if t155 < 0 then (some (-1)) else ((laws_szIntS.f l0_1 t155).bind fun t156 => (if t156 < 0 then (some (-1)) else ((laws_szIntS.f l0_2 t156).bind fun t157 => (if t157 < 0 then (some (-1)) else (some t157))))))) = some r := h; clear h; replace H := bo H; obtain ⟨t155, A3, H⟩ := H
 by_cases c4 : t155 < 0
 ·
  rw [if_pos c4] at H; have c4b0 := decide_eq_true c4; clear c4; obtain rfl := sj H; go_enter Try.func23, Try.ntmps23
  go_wp2_with (first | ((with_reducible refine gate_dst (N := 2) rfl ?_); refine bxe 2 #[.slice A0_0 l0_0.length c0_0, .slice A0_1 l0_1.length c0_1, .slice A0_2 l0_2.length c0_2, .int .i64 a0_3, .int .i64 a0_4] 47 ?_; intro gb154 hg w5 BK154 hb; have GW154 := As.mk (gs w hg); replace HB := bs w hb; clear hb hg; obtain ⟨y6a, y6b, y6c, y6d, y6e, v6a, v6b, v6c, v6d, v6e⟩ := cl5 BK154.out) | ((with_reducible refine gate_callee (f := 48) rfl ?_); refine goL (some 8) Try.func48 #[.slice A0_0 l0_0.length c0_0, .int .i64 a1] ?_; (with_reducible refine (laws_szCellS.calls _ _ l0_0 a1 t155 _ (cb HR0_0) HC0_0.out A3.out).mono ?_); rintro e w' ⟨rfl, ⟨nd, rfl⟩⟩; refine ⟨_, rfl, ?_⟩))
  go_ret
  exact ⟨ez, be w⟩
 rw [if_neg c4] at H; have c4b0 := decide_eq_false c4; clear c4; replace H := bo H; obtain ⟨t156, A7, H⟩ := H
 by_cases c8 : t156 < 0
 ·
  rw [if_pos c8] at H; have c8b0 := decide_eq_true c8; clear c8; obtain rfl := sj H; go_enter Try.func23, Try.ntmps23
  go_wp2_with (first | ((with_reducible refine gate_dst (N := 2) rfl ?_); refine bxe 2 #[.slice A0_0 l0_0.length c0_0, .slice A0_1 l0_1.length c0_1, .slice A0_2 l0_2.length c0_2, .int .i64 a0_3, .int .i64 a0_4] 47 ?_; intro gb154 hg w9 BK154 hb; have GW154 := As.mk (gs w hg); replace HB := bs w hb; clear hb hg; obtain ⟨y10a, y10b, y10c, y10d, y10e, v10a, v10b, v10c, v10d, v10e⟩ := cl5 BK154.out) | ((with_reducible refine gate_callee (f := 48) rfl ?_); refine goL (some 8) Try.func48 #[.slice A0_0 l0_0.length c0_0, .int .i64 a1] ?_; (with_reducible refine (laws_szCellS.calls _ _ l0_0 a1 t155 _ (cb HR0_0) HC0_0.out A3.out).mono ?_); rintro e w' ⟨rfl, ⟨nd, rfl⟩⟩; refine ⟨_, rfl, ?_⟩) | ((with_reducible refine gate_callee (f := 49) rfl ?_); refine goL (some 14) Try.func49 #[.slice A0_1 l0_1.length c0_1, .int .i64 t155] ?_; (with_reducible refine (laws_szIntS.calls _ _ l0_1 t155 t156 _ (cb HR0_1) HC0_1.out A7.out).mono ?_); rintro e w' ⟨rfl, ⟨nd, rfl⟩⟩; refine ⟨_, rfl, ?_⟩))
  go_ret
  exact ⟨ez, be w⟩
 rw [if_neg c8] at H; have c8b0 := decide_eq_false c8; clear c8; replace H := bo H; obtain ⟨t157, A11, H⟩ := H
 by_cases c12 : t157 < 0
 ·
  rw [if_pos c12] at H; have c12b0 := decide_eq_true c12; clear c12; obtain rfl := sj H; go_enter Try.func23, Try.ntmps23
  go_wp2_with (first | ((with_reducible refine gate_dst (N := 2) rfl ?_); refine bxe 2 #[.slice A0_0 l0_0.length c0_0, .slice A0_1 l0_1.length c0_1, .slice A0_2 l0_2.length c0_2, .int .i64 a0_3, .int .i64 a0_4] 47 ?_; intro gb154 hg w13 BK154 hb; have GW154 := As.mk (gs w hg); replace HB := bs w hb; clear hb hg; obtain ⟨y14a, y14b, y14c, y14d, y14e, v14a, v14b, v14c, v14d, v14e⟩ := cl5 BK154.out) | ((with_reducible refine gate_callee (f := 48) rfl ?_); refine goL (some 8) Try.func48 #[.slice A0_0 l0_0.length c0_0, .int .i64 a1] ?_; (with_reducible refine (laws_szCellS.calls _ _ l0_0 a1 t155 _ (cb HR0_0) HC0_0.out A3.out).mono ?_); rintro e w' ⟨rfl, ⟨nd, rfl⟩⟩; refine ⟨_, rfl, ?_⟩) | ((with_reducible refine gate_callee (f := 49) rfl ?_); refine goL (some 14) Try.func49 #[.slice A0_1 l0_1.length c0_1, .int .i64 t155] ?_; (with_reducible refine (laws_szIntS.calls _ _ l0_1 t155 t156 _ (cb HR0_1) HC0_1.out A7.out).mono ?_); rintro e w' ⟨rfl, ⟨nd, rfl⟩⟩; refine ⟨_, rfl, ?_⟩) | ((with_reducible refine gate_callee (f := 49) rfl ?_); refine goL (some 20) Try.func49 #[.slice A0_2 l0_2.length c0_2, .int .i64 t156] ?_; (with_reducible refine (laws_szIntS.calls _ _ l0_2 t156 t157 _ (cb HR0_2) HC0_2.out A11.out).mono ?_); rintro e w' ⟨rfl, ⟨nd, rfl⟩⟩; refine ⟨_, rfl, ?_⟩))
  go_ret
  exact ⟨ez, be w⟩
 rw [if_neg c12] at H; have c12b0 := decide_eq_false c12; clear c12; obtain rfl := sj H; go_enter Try.func23, Try.ntmps23
 go_wp2_with (first | ((with_reducible refine gate_dst (N := 2) rfl ?_); refine bxe 2 #[.slice A0_0 l0_0.length c0_0, .slice A0_1 l0_1.length c0_1, .slice A0_2 l0_2.length c0_2, .int .i64 a0_3, .int .i64 a0_4] 47 ?_; intro gb154 hg w15 BK154 hb; have GW154 := As.mk (gs w hg); replace HB := bs w hb; clear hb hg; obtain ⟨y16a, y16b, y16c, y16d, y16e, v16a, v16b, v16c, v16d, v16e⟩ := cl5 BK154.out) | ((with_reducible refine gate_callee (f := 48) rfl ?_); refine goL (some 8) Try.func48 #[.slice A0_0 l0_0.length c0_0, .int .i64 a1] ?_; (with_reducible refine (laws_szCellS.calls _ _ l0_0 a1 t155 _ (cb HR0_0) HC0_0.out A3.out).mono ?_); rintro e w' ⟨rfl, ⟨nd, rfl⟩⟩; refine ⟨_, rfl, ?_⟩) | ((with_reducible refine gate_callee (f := 49) rfl ?_); refine goL (some 14) Try.func49 #[.slice A0_1 l0_1.length c0_1, .int .i64 t155] ?_; (with_reducible refine (laws_szIntS.calls _ _ l0_1 t155 t156 _ (cb HR0_1) HC0_1.out A7.out).mono ?_); rintro e w' ⟨rfl, ⟨nd, rfl⟩⟩; refine ⟨_, rfl, ?_⟩) | ((with_reducible refine gate_callee (f := 49) rfl ?_); refine goL (some 20) Try.func49 #[.slice A0_2 l0_2.length c0_2, .int .i64 t156] ?_; (with_reducible refine (laws_szIntS.calls _ _ l0_2 t156 t157 _ (cb HR0_2) HC0_2.out A11.out).mono ?_); rintro e w' ⟨rfl, ⟨nd, rfl⟩⟩; refine ⟨_, rfl, ?_⟩))
 go_ret
 exact ⟨ez, be w⟩

/-! ### laws_toCell: function 73 -/
def laws_toCell.f (a0_0 : Bool) (a0_1 : Int) : Option (Bool × Int) := some (a0_0, a0_1)
set_option maxHeartbeats 8000000 in
set_option maxRecDepth 100000 in
theorem laws_toCell.calls (a0_0 : Bool) (a0_1 : Int) (r1 : Bool) (r2 : Int) (w : World) (h : laws_toCell.f a0_0 a0_1 = some (r1, r2)) :
  Calls Try.prog 73 #[.agg #[.bool a0_0, .int .i64 a0_1]] w fun e w' => e = .returned (.agg #[.bool r1, .int .i64 r2]) ∧ Below w.heap.size w w' := by
 have hu98 := Try.underlying98; have hu93 := Try.underlying93; have HB := As.mk (Below.refl w.heap.size w); have H : (some (a0_0, a0_1)) = some (r1, r2) := h; clear h
 simp only [Option.some.injEq, Prod.mk.injEq] at H
 obtain ⟨rfl, rfl⟩ := H; go_enter Try.func73, Try.ntmps73
 go_wp2_with (first | ((with_reducible refine gate_dst (N := 1) rfl ?_); refine bxe 1 #[.bool a0_0, .int .i64 a0_1] 98 ?_; intro gb158 hg w2 BK158 hb; have GW158 := As.mk (gs w hg); replace HB := bs w hb; clear hb hg) | ((with_reducible refine gate_dst (N := 2) rfl ?_); refine bxe 2 #[.bool false, .int .i64 0] 93 ?_; intro gb159 hg w3 BK159 hb; have GW159 := As.mk (gs w hg); replace HB := bs w hb; have NB158_159 := As.mk (nl hg (bx BK158.out)); have NB159_158 := As.mk (ng hg (bx BK158.out)); replace BK158 := bb BK158 hb; clear hb hg) | ((with_reducible refine gate_dst (N := 3) rfl ?_); refine bxe 3 #[.bool false, .int .i64 0] 93 ?_; intro gb160 hg w4 BK160 hb; have GW160 := As.mk (gs w hg); replace HB := bs w hb; have NB158_160 := As.mk (nl hg (bx BK158.out)); have NB160_158 := As.mk (ng hg (bx BK158.out)); replace BK158 := bb BK158 hb; have NB159_160 := As.mk (nl hg (bx BK159.out)); have NB160_159 := As.mk (ng hg (bx BK159.out)); replace BK159 := bb BK159 hb; clear hb hg; have hnb5 := NB158_159.out; have hnc5 := NB159_158.out; have hnb6 := NB158_160.out; have hnc6 := NB160_158.out; obtain ⟨y7a, y7b, v7a, v7b⟩ := cl2 BK158.out; have hnb8 := NB160_159.out; have hnc8 := NB159_160.out; obtain ⟨y9a, y9b, v9a, v9b⟩ := cl2 BK160.out; obtain ⟨y10a, y10b, v10a, v10b⟩ := cl2 BK159.out))
 refine bodyPost_ret (results_cell_row rfl _ _ gb159 93 #[.bool a0_0, .int .i64 a0_1] (0, 0) _ rfl (by refine pl ?_; refine blk_put (cs := #[.bool a0_0, .int .i64 0]) ?_ 1 _ rfl; refine pl ?_; refine blk_put (cs := #[.bool false, .int .i64 0]) ?_ 0 _ rfl; refine pl ?_; refine blk_far ?_ NB159_160.out _; refine pl ?_; refine blk_far ?_ NB159_160.out _; exact bx BK159.out) Try.underlying93 rfl (by kernel_rfl)) rfl ?_
 exact ⟨ez, be w⟩

/-! ### laws_toCellS: function 52 -/
def laws_toCellS.l0 : Nat → List (S98) → List (S93) → Int → Option ((List (S93)))
 | 0, _, _, _ => none
 | k + 1, x0, x3, x4 => if x4 < (x0.length : Int) then (if 0 ≤ x4 then ((laws_toCell.f ((rd_T98 x0 x4).f0) ((rd_T98 x0 x4).f1)).bind fun bt165 => (if x4 < (x3.length : Int) then (laws_toCellS.l0 k x0 (x3.set (x4 : Int).toNat (⟨bt165.1, bt165.2⟩ : S93)) (wrap64 (x4 + 1))) else (none))) else (none)) else (some x3)
def laws_toCellS.f (k : Nat) (l0 : List (S98)) : Option ((List (S93))) := if 0 ≤ (l0.length : Int) then (if ((l0.length : Int) : Int).toNat ≤ 17592186044416 then (laws_toCellS.l0 k l0 (List.replicate ((l0.length : Int) : Int).toNat z93) 0) else (none)) else (none)
theorem laws_toCellS.mono_l : ∀ k, (∀ y0 y1 y2, LeO (laws_toCellS.l0 k y0 y1 y2) (laws_toCellS.l0 (k + 1) y0 y1 y2))
 | 0 => fun _ _ _ r h => by simp [laws_toCellS.l0] at h
 | k + 1 => by
  have ih0 := laws_toCellS.mono_l k
  ·
   intro y0 y1 y2
   unfold laws_toCellS.l0
   with_reducible repeat' first | exact ih0 _ _ _ | exact LeO.refl _ | exact LeO.none _ | refine LeO.ite ?_ ?_ | refine LeO.bind ?_ (fun _ => ?_)
theorem laws_toCellS.mono : ∀ a0 k, LeO (laws_toCellS.f k a0) (laws_toCellS.f (k + 1) a0) := by
 intro a0 k; have ih0 := laws_toCellS.mono_l k
 unfold laws_toCellS.f
 with_reducible repeat' first | exact ih0 _ _ _ | exact LeO.refl _ | exact LeO.none _ | refine LeO.ite ?_ ?_ | refine LeO.bind ?_ (fun _ => ?_)
set_option maxHeartbeats 8000000 in
set_option maxRecDepth 100000 in
theorem laws_toCellS.calls (k : Nat) (A0 : Option Addr) (c0 : Nat) (l0 : List (S98)) (r : List (S93)) (w : World) (hr0 : Kd.C k98 w A0 l0.length l0) (hc0 : l0.length ≤ c0) (h : laws_toCellS.f k l0 = some r) :
  Calls Try.prog 52 #[.slice A0 l0.length c0] w fun e w' => ∃ v0_ : Value, e = .returned (v0_) ∧ Kd.R k93 93 w' w.heap.size (fun _ => True) v0_ r ∧ Below w.heap.size w w' := by
 have hu98 := Try.underlying98; have hu93 := Try.underlying93; have HR0 := As.mk hr0; have HC0 := As.mk hc0; clear hr0 hc0; have HB := As.mk (Below.refl w.heap.size w); have H : (if 0 ≤ (l0.length : Int) then (if ((l0.length : Int) : Int).toNat ≤ 17592186044416 then (laws_toCellS.l0 k l0 (List.replicate ((l0.length : Int) : Int).toNat z93) 0) else (none)) else (none)) = some r := h; clear h
 by_cases c2 : 0 ≤ (l0.length : Int)
 rotate_left; · rw [if_neg c2] at H; exact absurd H (by simp)

 rw [if_pos c2] at H; have c2b0 := eq_true c2; have c2b1 := decide_eq_true c2; clear c2; replace H := ie H; obtain ⟨c3b0, c3b1, H⟩ := H
 obtain ⟨y161, hy161⟩ : ∃ y_ : List (S93), y_ = (List.replicate ((l0.length : Int) : Int).toNat z93) := ⟨_, rfl⟩
 replace H : (laws_toCellS.l0 k l0 y161 0) = some r := by first | (rw [hy161]; with_reducible exact H) | (have H2_ := (Option.bind_some _ _).symm.trans H; rw [hy161]; with_reducible exact H2_) | (have H2_ := (Option.bind_some _ _).symm.trans H; with_reducible exact H2_) | with_reducible exact H | (rw [hy161]; exact H) | exact H
 have Ny161 := As.mk hy161; clear hy161; have H' := As.mk H; clear H; go_enter Try.func52, Try.ntmps52
 go_wp2_with (first | ((with_reducible refine gate_dst (N := 7) rfl ?_); refine Kd.R_make k93 _ 93 rfl (N := 7) rfl 32 _ _ rfl (l0.length : Int) rfl rfl Try.underlying32 (.agg #[(.bool false), (.int .i64 0)]) 16 info93 rfl (by decide) (by omega) z93 (ok := fun _ => True) (okp := fun _ => True) (k93_mkM _ _ _ z93 ) (fun _ hk => hk) trivial (of_decide_eq_true (by first | (with_reducible assumption) | assumption)) (Nat.le_trans (Nat.mul_le_mul_right _ (of_decide_eq_true (by first | (with_reducible assumption) | assumption) : (l0.length : Int).toNat ≤ 17592186044416)) (by omega)) (Below.refl _ _) (Nat.le_refl _) ?_; intro v162 w4 ho5 hb hg_ hnew_; clear hg_ hnew_; (first | rw [← Ny161.out] at ho5 | (simp only [Int.reduceToNat] at ho5; rw [← Ny161.out] at ho5)); have HO163 := As.mk (Kd.R_lower ho5 (below_size (be w))); replace HB := bs w hb; clear hb ho5))
 go_loopg [4] k (fun kq v4 w' => ∃ (x3_1 : List (S93)) (x4_1 : Int), v4 = .int .i64 x4_1 ∧ As (laws_toCellS.l0 kq l0 x3_1 x4_1 = some r) ∧ As (kq ≤ k) ∧ As (Kd.R k93 93 w' w.heap.size (fun _ => True) v162 x3_1) ∧ As (Below w.heap.size w w'))
 case atStart => exact ⟨(y161), (0), (by first | rfl | (simp; done) | (simp [*]; done)), H', ⟨Nat.le_refl _⟩, ⟨by (with_reducible repeat (first | apply Kd.R_alloc | apply Kd.R_drewN | apply Kd.R_drew)); exact HO163.out⟩, ⟨be w⟩⟩
 case round =>
  clear H'; (try clear c2); (try clear c2b0); (try clear c2b1); (try clear c3); (try clear c3b0); (try clear c3b1); obtain ⟨x3_1, x4_1, rfl, HA, HK1, HO_3, HB⟩ := hrel
  cases gk with
  | zero => exact absurd HA.out (by simp [laws_toCellS.l0])
  | succ k1 =>
   have H := HA.out; clear HA
   simp only [laws_toCellS.l0] at H
   by_cases c6 : x4_1 < (l0.length : Int)
   rotate_left
   ·
    rw [if_neg c6] at H; have c6b0 := decide_eq_false c6; clear c6; obtain rfl := sj H
    go_wp2
    go_ret
    exact ⟨_, ez, by (with_reducible repeat (first | apply Kd.R_alloc | apply Kd.R_drewN | apply Kd.R_drew)); exact HO_3.out, be w⟩
   rw [if_pos c6] at H; have c6b0 := decide_eq_true c6; clear c6; replace H := ia H; obtain ⟨c7b0, H⟩ := H; replace H := bo H; obtain ⟨⟨t165, t166⟩, A8, H⟩ := H
   try dsimp only at H
   replace H := ia H; obtain ⟨c9b0, H⟩ := H
   obtain ⟨y167, hy167⟩ : ∃ y_ : List (S93), y_ = (x3_1.set (x4_1 : Int).toNat (⟨t165, t166⟩ : S93)) := ⟨_, rfl⟩
   replace H : (laws_toCellS.l0 k1 l0 y167 (wrap64 (x4_1 + 1))) = some r := by first | (rw [hy167]; with_reducible exact H) | (have H2_ := (Option.bind_some _ _).symm.trans H; rw [hy167]; with_reducible exact H2_) | (have H2_ := (Option.bind_some _ _).symm.trans H; with_reducible exact H2_) | with_reducible exact H | (rw [hy167]; exact H) | exact H
   have Ny167 := As.mk hy167; clear hy167; have H' := As.mk H; clear H; obtain ⟨ad164, e164, p164, q164, x164a, x164b⟩ := bt_T98 HB.out HR0.out x4_1 od od; cases e164
   go_wp2_with (first | ((with_reducible refine gate_callee (f := 73) rfl ?_); refine goL (some 20) Try.func73 #[.agg #[.bool ((rd_T98 l0 x4_1).f0), .int .i64 ((rd_T98 l0 x4_1).f1)]] ?_; (with_reducible refine (laws_toCell.calls ((rd_T98 l0 x4_1).f0) ((rd_T98 l0 x4_1).f1) t165 t166 _ A8.out).mono ?_); rintro e w11 ⟨rfl, hb⟩; refine ⟨_, rfl, ?_⟩; replace HO_3 := rb HO_3 hb; replace HB := bs w hb; (try clear hb); (try clear hk); have p10 : 0 ≤ (x4_1 : Int) := od; have q10 : (x4_1 : Int) < ((x3_1.length : Int) : Int) := od; obtain ⟨go10, co10, eo10, gb10, gl10, cl10, HG10⟩ := Kd.R_form HO_3.out (by omega); (first | cases eo10 | (injection eo10 with ea_ en_ ec_; (first | subst ea_ | (injection ea_ with ea_; subst ea_)); subst ec_; clear en_)); have GB10 := As.mk gb10; have GG10 := As.mk HG10; clear gb10 gl10 HG10; obtain ⟨ce10, hcl10, hM10, hcc10, hfr10⟩ := Kd.R_elem HO_3.out z93 (x4_1 : Int) p10 q10; obtain rfl := k93_openM hM10; have x10a : w11.cell? ⟨go10, (x4_1 : Int).toNat * 2, none⟩ = some (.bool ((rd_T93 x3_1 x4_1).f0)) := hcc10 0 _ rfl; have x10b : w11.cell? ⟨go10, (x4_1 : Int).toNat * 2 + 1, none⟩ = some (.int .i64 ((rd_T93 x3_1 x4_1).f1)) := hcc10 1 _ rfl; have f10a : w11.frozen? ⟨go10, (x4_1 : Int).toNat * 2, none⟩ = false := hfr10 0; have f10b : w11.frozen? ⟨go10, (x4_1 : Int).toNat * 2 + 1, none⟩ = false := hfr10 1; clear hcl10 hcc10 hfr10 hM10; replace p10 := eq_true p10; replace q10 := eq_true q10; have HX12 := As.mk (show Kd.R k93 93 w11 w.heap.size (fun _ => True) (.slice (some ⟨go10, 0, none⟩) x3_1.length co10) x3_1 from (ra HO_3.out)); obtain ⟨ce12, hcl12, hM12, hcc12, hfr12⟩ := Kd.R_elem HX12.out z93 (x4_1 : Int) (of_decide_eq_true (by first | (with_reducible assumption) | assumption)) (by have h_ : (x4_1 : Int) < ((x3_1.length : Int) : Int) := od; first | exact h_ | (have e_ := (Kd.R_reads' HO_3.out).1; omega) | simpa using h_); obtain rfl := k93_openM hM12; have HP12 := Kd.R_seg HX12.out (x4_1 : Int) (of_decide_eq_true (by first | (with_reducible assumption) | assumption)) (by have h_ : (x4_1 : Int) < ((x3_1.length : Int) : Int) := od; first | exact h_ | (have e_ := (Kd.R_reads' HO_3.out).1; omega) | simpa using h_) (seg := [.bool t165, .int .i64 t166]) (j := 0) hcl12 hcc12 (show 2 ≤ 2 from by decide) (x' := (⟨t165, t166⟩ : S93)) (k93_mkM _ _ _ (⟨t165, t166⟩ : S93) ) (fun _ hk => hk); have x12a := hcc12 0 _ rfl; (try simp only [show (k93).sz = 2 from rfl, Nat.mul_one, Nat.add_zero] at x12a); have f12a := hfr12 0; (try simp only [show (k93).sz = 2 from rfl, Nat.mul_one, Nat.add_zero] at f12a); have x12b := hcc12 1 _ rfl; (try simp only [show (k93).sz = 2 from rfl, Nat.mul_one, Nat.add_zero] at x12b); have f12b := hfr12 1; (try simp only [show (k93).sz = 2 from rfl, Nat.mul_one, Nat.add_zero] at f12b); clear hcl12 hcc12 hfr12 hM12) | ((with_reducible refine gate_store (t := 93) (p := 21) rfl ?_); refine store_event (t := 93) (p := 21) (v := ?vo_w13) (w1 := ((w11.setCell ⟨go10, (x4_1 : Int).toNat * 2, none⟩ (.bool t165)).setCell ⟨go10, (x4_1 : Int).toNat * 2 + 1, none⟩ (.int .i64 t166))) ?hg ?ho ?hn ?hr ?_; (case ho => rfl); (case hg => rfl); (case hn => rfl); (case hr => first | (go_simp; done) | (go_simp; rfl)); intro w13 hw; have hg : w11.grownBy w13 (some go10) := (by rw [hw]; exact HP12.2); have hp_ : Kd.R k93 93 w13 w.heap.size (fun _ => True) (.slice (some ⟨go10, 0, none⟩) x3_1.length co10) y167 := (by rw [hw, Ny167.out]; exact HP12.1); clear HP12; replace HO_3 := As.mk (hp_); replace HB := As.mk ((by rw [hw]; exact below_set (below_set (HB.out) GB10.out) GB10.out : Below w.heap.size w w13)); clear hg hw hp_))
   go_roundg k1
   case measure => have := HK1.out; omega
   case rel => exact ⟨(y167), (wrap64 (x4_1 + 1)), (by first | rfl | (simp; done) | (simp [*]; done)), H', ⟨by have := HK1.out; omega⟩, ⟨by (with_reducible repeat (first | apply Kd.R_alloc | apply Kd.R_drewN | apply Kd.R_drew)); exact HO_3.out⟩, ⟨be w⟩⟩
/-! ### laws_toIntS: function 53 -/
def laws_toIntS.l0 : Nat → List Int → List Int → Int → Option (List Int)
 | 0, _, _, _ => none
 | k + 1, x0, x3, x4 => if x4 < (x0.length : Int) then (if 0 ≤ x4 then (if x4 < (x3.length : Int) then (laws_toIntS.l0 k x0 (x3.set (x4 : Int).toNat (rd x0 x4)) (wrap64 (x4 + 1))) else (none)) else (none)) else (some x3)
def laws_toIntS.f (k : Nat) (l0 : List Int) : Option (List Int) := if 0 ≤ (l0.length : Int) then (if ((l0.length : Int) : Int).toNat ≤ 35184372088832 then (laws_toIntS.l0 k l0 (List.replicate ((l0.length : Int) : Int).toNat 0) 0) else (none)) else (none)
theorem laws_toIntS.mono_l : ∀ k, (∀ y0 y1 y2, LeO (laws_toIntS.l0 k y0 y1 y2) (laws_toIntS.l0 (k + 1) y0 y1 y2))
 | 0 => fun _ _ _ r h => by simp [laws_toIntS.l0] at h
 | k + 1 => by
  have ih0 := laws_toIntS.mono_l k
  ·
   intro y0 y1 y2
   unfold laws_toIntS.l0
   with_reducible repeat' first | exact ih0 _ _ _ | exact LeO.refl _ | exact LeO.none _ | refine LeO.ite ?_ ?_ | refine LeO.bind ?_ (fun _ => ?_)
theorem laws_toIntS.mono : ∀ a0 k, LeO (laws_toIntS.f k a0) (laws_toIntS.f (k + 1) a0) := by
 intro a0 k; have ih0 := laws_toIntS.mono_l k
 unfold laws_toIntS.f
 with_reducible repeat' first | exact ih0 _ _ _ | exact LeO.refl _ | exact LeO.none _ | refine LeO.ite ?_ ?_ | refine LeO.bind ?_ (fun _ => ?_)
set_option maxHeartbeats 8000000 in
set_option maxRecDepth 100000 in
theorem laws_toIntS.calls (k : Nat) (A0 : Option Addr) (c0 : Nat) (l0 : List Int) (r : List Int) (w : World) (hr0 : Kd.C (Kd.int .i64) w A0 l0.length l0) (hc0 : l0.length ≤ c0) (h : laws_toIntS.f k l0 = some r) :
  Calls Try.prog 53 #[.slice A0 l0.length c0] w fun e w' => ∃ v0_ : Value, e = .returned (v0_) ∧ Kd.R (Kd.int .i64) 3 w' w.heap.size (fun _ => True) v0_ r ∧ Below w.heap.size w w' := by
 have HR0 := As.mk hr0; have HC0 := As.mk hc0; clear hr0 hc0; have HB := As.mk (Below.refl w.heap.size w); have H : (if 0 ≤ (l0.length : Int) then (if ((l0.length : Int) : Int).toNat ≤ 35184372088832 then (laws_toIntS.l0 k l0 (List.replicate ((l0.length : Int) : Int).toNat 0) 0) else (none)) else (none)) = some r := h; clear h
 by_cases c2 : 0 ≤ (l0.length : Int)
 rotate_left; · rw [if_neg c2] at H; exact absurd H (by simp)

 rw [if_pos c2] at H; have c2b0 := eq_true c2; have c2b1 := decide_eq_true c2; clear c2; replace H := ie H; obtain ⟨c3b0, c3b1, H⟩ := H
 obtain ⟨y168, hy168⟩ : ∃ y_ : List Int, y_ = (List.replicate ((l0.length : Int) : Int).toNat 0) := ⟨_, rfl⟩
 replace H : (laws_toIntS.l0 k l0 y168 0) = some r := by first | (rw [hy168]; with_reducible exact H) | (have H2_ := (Option.bind_some _ _).symm.trans H; rw [hy168]; with_reducible exact H2_) | (have H2_ := (Option.bind_some _ _).symm.trans H; with_reducible exact H2_) | with_reducible exact H | (rw [hy168]; exact H) | exact H
 have Ny168 := As.mk hy168; clear hy168; have H' := As.mk H; clear H; go_enter Try.func53, Try.ntmps53
 go_wp2_with (first | ((with_reducible refine gate_dst (N := 7) rfl ?_); refine Kd.R_make (Kd.int .i64) _ 3 rfl (N := 7) rfl 25 _ _ rfl (l0.length : Int) rfl rfl Try.underlying25 (.int .i64 0) 8 info3 rfl (by decide) (by omega) 0 (ok := fun _ => True) (okp := fun _ => True) rfl (fun _ hk => hk) trivial (of_decide_eq_true (by first | (with_reducible assumption) | assumption)) (Nat.le_trans (Nat.mul_le_mul_right _ (of_decide_eq_true (by first | (with_reducible assumption) | assumption) : (l0.length : Int).toNat ≤ 35184372088832)) (by omega)) (Below.refl _ _) (Nat.le_refl _) ?_; intro v169 w4 ho5 hb hg_ hnew_; clear hg_ hnew_; (first | rw [← Ny168.out] at ho5 | (simp only [Int.reduceToNat] at ho5; rw [← Ny168.out] at ho5)); have HO170 := As.mk (Kd.R_lower ho5 (below_size (be w))); replace HB := bs w hb; clear hb ho5))
 go_loopg [4] k (fun kq v4 w' => ∃ (x3_1 : List Int) (x4_1 : Int), v4 = .int .i64 x4_1 ∧ As (laws_toIntS.l0 kq l0 x3_1 x4_1 = some r) ∧ As (kq ≤ k) ∧ As (Kd.R (Kd.int .i64) 3 w' w.heap.size (fun _ => True) v169 x3_1) ∧ As (Below w.heap.size w w'))
 case atStart => exact ⟨(y168), (0), (by first | rfl | (simp; done) | (simp [*]; done)), H', ⟨Nat.le_refl _⟩, ⟨by (with_reducible repeat (first | apply Kd.R_alloc | apply Kd.R_drewN | apply Kd.R_drew)); exact HO170.out⟩, ⟨be w⟩⟩
 case round =>
  clear H'; (try clear c2); (try clear c2b0); (try clear c2b1); (try clear c3); (try clear c3b0); (try clear c3b1); obtain ⟨x3_1, x4_1, rfl, HA, HK1, HO_3, HB⟩ := hrel
  cases gk with
  | zero => exact absurd HA.out (by simp [laws_toIntS.l0])
  | succ k1 =>
   have H := HA.out; clear HA
   simp only [laws_toIntS.l0] at H
   by_cases c6 : x4_1 < (l0.length : Int)
   rotate_left
   ·
    rw [if_neg c6] at H; have c6b0 := decide_eq_false c6; clear c6; obtain rfl := sj H
    go_wp2
    go_ret
    exact ⟨_, ez, by (with_reducible repeat (first | apply Kd.R_alloc | apply Kd.R_drewN | apply Kd.R_drew)); exact HO_3.out, be w⟩
   rw [if_pos c6] at H; have c6b0 := decide_eq_true c6; clear c6; replace H := ia H; obtain ⟨c7b0, H⟩ := H; replace H := ia H; obtain ⟨c8b0, H⟩ := H
   obtain ⟨y172, hy172⟩ : ∃ y_ : List Int, y_ = (x3_1.set (x4_1 : Int).toNat (rd l0 x4_1)) := ⟨_, rfl⟩
   replace H : (laws_toIntS.l0 k1 l0 y172 (wrap64 (x4_1 + 1))) = some r := by first | (rw [hy172]; with_reducible exact H) | (have H2_ := (Option.bind_some _ _).symm.trans H; rw [hy172]; with_reducible exact H2_) | (have H2_ := (Option.bind_some _ _).symm.trans H; with_reducible exact H2_) | with_reducible exact H | (rw [hy172]; exact H) | exact H
   have Ny172 := As.mk hy172; clear hy172; have H' := As.mk H; clear H; have p171 : 0 ≤ (x4_1 : Int) := od; have q171 : x4_1 < (l0.length : Int) := od; obtain ⟨ad171, e171, x171a⟩ := Kd.at_int HR0.out x4_1 p171 q171; cases e171; replace x171a := ce HB.out x171a; replace p171 := eq_true p171; replace q171 := eq_true q171; have p9 : 0 ≤ (x4_1 : Int) := od; have q9 : (x4_1 : Int) < ((x3_1.length : Int) : Int) := od; obtain ⟨go9, co9, eo9, gb9, gl9, cl9, HG9⟩ := Kd.R_form HO_3.out (by omega)
   (first | cases eo9 | (injection eo9 with ea_ en_ ec_; (first | subst ea_ | (injection ea_ with ea_; subst ea_)); subst ec_; clear en_))
   have GB9 := As.mk gb9; have GG9 := As.mk HG9; clear gb9 gl9 HG9; obtain ⟨x9a, f9a⟩ := Kd.R_celln 0 HO_3.out (x4_1 : Int) p9 q9; replace p9 := eq_true p9; replace q9 := eq_true q9; have HP10 := Kd.R_putg HO_3.out (x4_1 : Int) (rd l0 x4_1)
   go_wp2_with (first | ((with_reducible refine gate_store (t := 3) (p := 20) rfl ?_); refine store_event (t := 3) (p := 20) (v := ?vo_w11) (w1 := (wr.setCell ⟨go9, (x4_1 : Int).toNat, none⟩ (.int .i64 (rd l0 x4_1)))) ?hg ?ho ?hn ?hr ?_; (case ho => rfl); (case hg => rfl); (case hn => rfl); (case hr => first | (go_simp; done) | (go_simp; rfl)); intro w11 hw; have hg : wr.grownBy w11 (some go9) := (by rw [hw]; exact HP10.2); have hp_ : Kd.R (Kd.int .i64) 3 w11 w.heap.size (fun _ => True) (.slice (some ⟨go9, 0, none⟩) x3_1.length co9) y172 := (by rw [hw, Ny172.out]; exact HP10.1); clear HP10; replace HO_3 := As.mk (hp_); replace HB := As.mk ((by rw [hw]; exact below_set (HB.out) GB9.out : Below w.heap.size w w11)); clear hg hw hp_))
   go_roundg k1
   case measure => have := HK1.out; omega
   case rel => exact ⟨(y172), (wrap64 (x4_1 + 1)), (by first | rfl | (simp; done) | (simp [*]; done)), H', ⟨by have := HK1.out; omega⟩, ⟨by (with_reducible repeat (first | apply Kd.R_alloc | apply Kd.R_drewN | apply Kd.R_drew)); exact HO_3.out⟩, ⟨be w⟩⟩
/-! ### laws_toMemory: function 25 -/
def laws_toMemory.f (k : Nat) (l0_0 : List (S98)) (l0_1 : List Int) (l0_2 : List Int) (a0_3 : Int) (a0_4 : Int) : Option ((List (S93)) × List Int × List Int × Int × Int) := (laws_toCellS.f k l0_0).bind fun t176 => ((laws_toIntS.f k l0_1).bind fun t179 => ((laws_toIntS.f k l0_2).bind fun t182 => (some (t176, t179, t182, a0_3, a0_4))))
theorem laws_toMemory.mono : ∀ a0 a1 a2 a3 a4 k, LeO (laws_toMemory.f k a0 a1 a2 a3 a4) (laws_toMemory.f (k + 1) a0 a1 a2 a3 a4) := by
 intro a0 a1 a2 a3 a4 k
 unfold laws_toMemory.f
 with_reducible repeat' first | exact laws_toCellS.mono _ _ | exact laws_toIntS.mono _ _ | exact LeO.refl _ | exact LeO.none _ | refine LeO.ite ?_ ?_ | refine LeO.bind ?_ (fun _ => ?_)
set_option maxHeartbeats 8000000 in
set_option maxRecDepth 100000 in
theorem laws_toMemory.calls (k : Nat) (A0_0 : Option Addr) (c0_0 : Nat) (l0_0 : List (S98)) (A0_1 : Option Addr) (c0_1 : Nat) (l0_1 : List Int) (A0_2 : Option Addr) (c0_2 : Nat) (l0_2 : List Int) (a0_3 : Int) (a0_4 : Int) (r1 : List (S93)) (r2 : List Int) (r3 : List Int) (r4 : Int) (r5 : Int) (w : World) (hr0_0 : Kd.C k98 w A0_0 l0_0.length l0_0) (hc0_0 : l0_0.length ≤ c0_0) (hr0_1 : Kd.C (Kd.int .i64) w A0_1 l0_1.length l0_1) (hc0_1 : l0_1.length ≤ c0_1) (hr0_2 : Kd.C (Kd.int .i64) w A0_2 l0_2.length l0_2) (hc0_2 : l0_2.length ≤ c0_2) (h : laws_toMemory.f k l0_0 l0_1 l0_2 a0_3 a0_4 = some (r1, r2, r3, r4, r5)) :
  Calls Try.prog 25 #[.agg #[.slice A0_0 l0_0.length c0_0, .slice A0_1 l0_1.length c0_1, .slice A0_2 l0_2.length c0_2, .int .i64 a0_3, .int .i64 a0_4]] w fun e w' => ∃ v0_ v1_ v2_ : Value, e = .returned (.agg #[v0_, v1_, v2_, .int .i64 r4, .int .i64 r5]) ∧ Kd.R k93 93 w' w.heap.size (fun _ => True) v0_ r1 ∧ Kd.R (Kd.int .i64) 3 w' w.heap.size (n1_k v2_) v1_ r2 ∧ Kd.R (Kd.int .i64) 3 w' w.heap.size (n1_k v1_) v2_ r3 ∧ Below w.heap.size w w' := by
 have hu47 := Try.underlying47; have hu34 := Try.underlying34; have HR0_0 := As.mk hr0_0; have HC0_0 := As.mk hc0_0; clear hr0_0 hc0_0; have HR0_1 := As.mk hr0_1; have HC0_1 := As.mk hc0_1; clear hr0_1 hc0_1; have HR0_2 := As.mk hr0_2; have HC0_2 := As.mk hc0_2; clear hr0_2 hc0_2; have HB := As.mk (Below.refl w.heap.size w); have H : ((laws_toCellS.f k l0_0).bind fun t176 => ((laws_toIntS.f k l0_1).bind fun t179 => ((laws_toIntS.f k l0_2).bind fun t182 => (some (t176, t179, t182, a0_3, a0_4))))) = some (r1, r2, r3, r4, r5) := h; clear h; replace H := bo H; obtain ⟨t176, A2, H⟩ := H; replace H := bo H; obtain ⟨t179, A3, H⟩ := H; replace H := bo H; obtain ⟨t182, A4, H⟩ := H
 simp only [Option.some.injEq, Prod.mk.injEq] at H
 obtain ⟨rfl, rfl, rfl, rfl, rfl⟩ := H; go_enter Try.func25, Try.ntmps25
 go_wp2_with (first | ((with_reducible refine gate_dst (N := 1) rfl ?_); refine bxe 1 #[.slice A0_0 l0_0.length c0_0, .slice A0_1 l0_1.length c0_1, .slice A0_2 l0_2.length c0_2, .int .i64 a0_3, .int .i64 a0_4] 47 ?_; intro gb173 hg w5 BK173 hb; have GW173 := As.mk (gs w hg); replace HB := bs w hb; clear hb hg) | ((with_reducible refine gate_dst (N := 2) rfl ?_); refine bxe 2 #[.slice none 0 0, .slice none 0 0, .slice none 0 0, .int .i64 0, .int .i64 0] 34 ?_; intro gb174 hg w6 BK174 hb; have GW174 := As.mk (gs w hg); replace HB := bs w hb; have NB173_174 := As.mk (nl hg (bx BK173.out)); have NB174_173 := As.mk (ng hg (bx BK173.out)); replace BK173 := bb BK173 hb; clear hb hg) | ((with_reducible refine gate_dst (N := 3) rfl ?_); refine bxe 3 #[.slice none 0 0, .slice none 0 0, .slice none 0 0, .int .i64 0, .int .i64 0] 34 ?_; intro gb175 hg w7 BK175 hb; have GW175 := As.mk (gs w hg); replace HB := bs w hb; have NB173_175 := As.mk (nl hg (bx BK173.out)); have NB175_173 := As.mk (ng hg (bx BK173.out)); replace BK173 := bb BK173 hb; have NB174_175 := As.mk (nl hg (bx BK174.out)); have NB175_174 := As.mk (ng hg (bx BK174.out)); replace BK174 := bb BK174 hb; clear hb hg; have hnb8 := NB173_174.out; have hnc8 := NB174_173.out; have hnb9 := NB173_175.out; have hnc9 := NB175_173.out; obtain ⟨y10a, y10b, y10c, y10d, y10e, v10a, v10b, v10c, v10d, v10e⟩ := cl5 BK173.out) | ((with_reducible refine gate_callee (f := 52) rfl ?_); refine goL (some 6) Try.func52 #[.slice A0_0 l0_0.length c0_0] ?_; (with_reducible refine (laws_toCellS.calls k _ _ l0_0 t176 _ (cb HR0_0) HC0_0.out A2.out).mono ?_); rintro e w11 ⟨v177, rfl, ho0, hb⟩; refine ⟨_, rfl, ?_⟩; have HO178 := As.mk (Kd.R_lower ho0 (below_size (be w))); replace BK173 := bb BK173 hb; replace BK174 := bb BK174 hb; replace BK175 := bb BK175 hb; replace HB := bs w hb; (try clear hb); (try clear hk); (try clear ho0); obtain ⟨Ao12, co12, eo12⟩ := Kd.R_slice HO178.out; subst eo12; have hnb13 := NB175_174.out; have hnc13 := NB174_175.out; obtain ⟨y14a, y14b, y14c, y14d, y14e, v14a, v14b, v14c, v14d, v14e⟩ := cl5 BK175.out; obtain ⟨y15a, y15b, y15c, y15d, y15e, v15a, v15b, v15c, v15d, v15e⟩ := cl5 BK173.out) | ((with_reducible refine gate_callee (f := 53) rfl ?_); refine goL (some 10) Try.func53 #[.slice A0_1 l0_1.length c0_1] ?_; (with_reducible refine (laws_toIntS.calls k _ _ l0_1 t179 _ (cb HR0_1) HC0_1.out A3.out).mono ?_); rintro e w16 ⟨v180, rfl, ho0, hb⟩; refine ⟨_, rfl, ?_⟩; replace HO178 := rfb HO178 BK175 hb; have HO181 := As.mk (Kd.R_lower ho0 (below_size (be w))); replace BK173 := fb BK173 hb; replace BK174 := fb BK174 hb; replace BK175 := As.mk (blk_below (g := gb175) (o := .cells #[.slice Ao12 t176.length co12, .slice none 0 0, .slice none 0 0, .int .i64 0, .int .i64 0] 34 (0, 0)) (by refine pl ?_; refine blk_put (cs := #[.slice none 0 0, .slice none 0 0, .slice none 0 0, .int .i64 0, .int .i64 0]) ?_ 0 _ rfl; exact bx BK175.out) hb); replace HB := bs w hb; (try clear hb); (try clear hk); (try clear ho0); obtain ⟨Ao17, co17, eo17⟩ := Kd.R_slice HO181.out; subst eo17; obtain ⟨y18a, y18b, y18c, y18d, y18e, v18a, v18b, v18c, v18d, v18e⟩ := cl5 BK175.out; obtain ⟨y19a, y19b, y19c, y19d, y19e, v19a, v19b, v19c, v19d, v19e⟩ := cl5 BK173.out) | ((with_reducible refine gate_callee (f := 53) rfl ?_); refine goL (some 14) Try.func53 #[.slice A0_2 l0_2.length c0_2] ?_; (with_reducible refine (laws_toIntS.calls k _ _ l0_2 t182 _ (cb HR0_2) HC0_2.out A4.out).mono ?_); rintro e w20 ⟨v183, rfl, ho0, hb⟩; refine ⟨_, rfl, ?_⟩; replace HO178 := rfb HO178 BK175 hb; have HO184 := As.mk (Kd.R_lower (Kd.R_new' ho0 (Kd.R_lt (rf HO181 BK175))) (below_size (be w))); replace HO181 := As.mk (Kd.R_elder' (rf HO181 BK175) (Kd.R_base ho0) hb); replace BK173 := fb BK173 hb; replace BK174 := fb BK174 hb; replace BK175 := As.mk (blk_below (g := gb175) (o := .cells #[.slice Ao12 t176.length co12, .slice Ao17 t179.length co17, .slice none 0 0, .int .i64 0, .int .i64 0] 34 (0, 0)) (by refine pl ?_; refine blk_put (cs := #[.slice Ao12 t176.length co12, .slice none 0 0, .slice none 0 0, .int .i64 0, .int .i64 0]) ?_ 1 _ rfl; exact bx BK175.out) hb); replace HB := bs w hb; (try clear hb); (try clear hk); (try clear ho0); obtain ⟨Ao21, co21, eo21⟩ := Kd.R_slice HO184.out; subst eo21; obtain ⟨y22a, y22b, y22c, y22d, y22e, v22a, v22b, v22c, v22d, v22e⟩ := cl5 BK175.out; obtain ⟨y23a, y23b, y23c, y23d, y23e, v23a, v23b, v23c, v23d, v23e⟩ := cl5 BK173.out; obtain ⟨y24a, y24b, y24c, y24d, y24e, v24a, v24b, v24c, v24d, v24e⟩ := cl5 BK174.out))
 refine bodyPost_ret (results_cell_row rfl _ _ gb174 34 #[.slice Ao12 t176.length co12, .slice Ao17 t179.length co17, .slice Ao21 t182.length co21, .int .i64 a0_3, .int .i64 a0_4] (0, 0) _ rfl (by refine pl ?_; refine blk_put (cs := #[.slice Ao12 t176.length co12, .slice Ao17 t179.length co17, .slice Ao21 t182.length co21, .int .i64 a0_3, .int .i64 0]) ?_ 4 _ rfl; refine pl ?_; refine blk_put (cs := #[.slice Ao12 t176.length co12, .slice Ao17 t179.length co17, .slice Ao21 t182.length co21, .int .i64 0, .int .i64 0]) ?_ 3 _ rfl; refine pl ?_; refine blk_put (cs := #[.slice Ao12 t176.length co12, .slice Ao17 t179.length co17, .slice none 0 0, .int .i64 0, .int .i64 0]) ?_ 2 _ rfl; refine pl ?_; refine blk_put (cs := #[.slice Ao12 t176.length co12, .slice none 0 0, .slice none 0 0, .int .i64 0, .int .i64 0]) ?_ 1 _ rfl; refine pl ?_; refine blk_put (cs := #[.slice none 0 0, .slice none 0 0, .slice none 0 0, .int .i64 0, .int .i64 0]) ?_ 0 _ rfl; refine pl ?_; refine blk_far ?_ NB174_175.out _; refine pl ?_; refine blk_far ?_ NB174_175.out _; refine pl ?_; refine blk_far ?_ NB174_175.out _; exact bx BK174.out) Try.underlying34 rfl (by kernel_rfl)) rfl ?_
 exact ⟨_, _, _, ez, by (with_reducible repeat (first | apply Kd.R_alloc | apply Kd.R_drewN | apply Kd.R_drew)); exact Kd.R_mono (Kd.R_far (p := ⟨gb174, 4, none⟩) (Kd.R_far (p := ⟨gb174, 3, none⟩) (Kd.R_far (p := ⟨gb174, 2, none⟩) (Kd.R_far (p := ⟨gb174, 1, none⟩) (Kd.R_far (p := ⟨gb174, 0, none⟩) (Kd.R_far (p := ⟨gb175, 4, none⟩) (Kd.R_far (p := ⟨gb175, 3, none⟩) (Kd.R_far (p := ⟨gb175, 2, none⟩) (Kd.R_types (Kd.R_types HO178.out BK175.out (by decide)) BK174.out (by decide)) (fun _ hk => hk.1.2) (.slice Ao21 t182.length co21)) (fun _ hk => hk.1.2) (.int .i64 a0_3)) (fun _ hk => hk.1.2) (.int .i64 a0_4)) (fun _ hk => hk.2) (.slice Ao12 t176.length co12)) (fun _ hk => hk.2) (.slice Ao17 t179.length co17)) (fun _ hk => hk.2) (.slice Ao21 t182.length co21)) (fun _ hk => hk.2) (.int .i64 a0_3)) (fun _ hk => hk.2) (.int .i64 a0_4)) (fun _ hk => trivial), by (with_reducible repeat (first | apply Kd.R_alloc | apply Kd.R_drewN | apply Kd.R_drew)); exact Kd.R_mono (Kd.R_far (p := ⟨gb174, 4, none⟩) (Kd.R_far (p := ⟨gb174, 3, none⟩) (Kd.R_far (p := ⟨gb174, 2, none⟩) (Kd.R_far (p := ⟨gb174, 1, none⟩) (Kd.R_far (p := ⟨gb174, 0, none⟩) (Kd.R_far (p := ⟨gb175, 4, none⟩) (Kd.R_far (p := ⟨gb175, 3, none⟩) (Kd.R_far (p := ⟨gb175, 2, none⟩) (Kd.R_types (Kd.R_types HO181.out BK175.out (by decide)) BK174.out (by decide)) (fun _ hk => hk.1.2) (.slice Ao21 t182.length co21)) (fun _ hk => hk.1.2) (.int .i64 a0_3)) (fun _ hk => hk.1.2) (.int .i64 a0_4)) (fun _ hk => hk.2) (.slice Ao12 t176.length co12)) (fun _ hk => hk.2) (.slice Ao17 t179.length co17)) (fun _ hk => hk.2) (.slice Ao21 t182.length co21)) (fun _ hk => hk.2) (.int .i64 a0_3)) (fun _ hk => hk.2) (.int .i64 a0_4)) (fun _ hk => hk.1.1.2), by (with_reducible repeat (first | apply Kd.R_alloc | apply Kd.R_drewN | apply Kd.R_drew)); exact Kd.R_mono (Kd.R_far (p := ⟨gb174, 4, none⟩) (Kd.R_far (p := ⟨gb174, 3, none⟩) (Kd.R_far (p := ⟨gb174, 2, none⟩) (Kd.R_far (p := ⟨gb174, 1, none⟩) (Kd.R_far (p := ⟨gb174, 0, none⟩) (Kd.R_far (p := ⟨gb175, 4, none⟩) (Kd.R_far (p := ⟨gb175, 3, none⟩) (Kd.R_far (p := ⟨gb175, 2, none⟩) (Kd.R_types (Kd.R_types HO184.out BK175.out (by decide)) BK174.out (by decide)) (fun _ hk => hk.1.2) (.slice Ao21 t182.length co21)) (fun _ hk => hk.1.2) (.int .i64 a0_3)) (fun _ hk => hk.1.2) (.int .i64 a0_4)) (fun _ hk => hk.2) (.slice Ao12 t176.length co12)) (fun _ hk => hk.2) (.slice Ao17 t179.length co17)) (fun _ hk => hk.2) (.slice Ao21 t182.length co21)) (fun _ hk => hk.2) (.int .i64 a0_3)) (fun _ hk => hk.2) (.int .i64 a0_4)) (fun _ hk => hk.1.1.2), be w⟩

/-! ### laws_toValue: function 26 -/
def laws_toValue.f (a0_0 : Int) (a0_1 : Int) : Option (Int × Int) := some (a0_0, a0_1)
set_option maxHeartbeats 8000000 in
set_option maxRecDepth 100000 in
theorem laws_toValue.calls (a0_0 : Int) (a0_1 : Int) (r1 : Int) (r2 : Int) (w : World) (h : laws_toValue.f a0_0 a0_1 = some (r1, r2)) :
  Calls Try.prog 26 #[.agg #[.int .i64 a0_0, .int .i64 a0_1]] w fun e w' => e = .returned (.agg #[.int .i64 r1, .int .i64 r2]) ∧ Below w.heap.size w w' := by
 have hu48 := Try.underlying48; have hu37 := Try.underlying37; have HB := As.mk (Below.refl w.heap.size w); have H : (some (a0_0, a0_1)) = some (r1, r2) := h; clear h
 simp only [Option.some.injEq, Prod.mk.injEq] at H
 obtain ⟨rfl, rfl⟩ := H; go_enter Try.func26, Try.ntmps26
 go_wp2_with (first | ((with_reducible refine gate_dst (N := 1) rfl ?_); refine bxe 1 #[.int .i64 a0_0, .int .i64 a0_1] 48 ?_; intro gb185 hg w2 BK185 hb; have GW185 := As.mk (gs w hg); replace HB := bs w hb; clear hb hg) | ((with_reducible refine gate_dst (N := 2) rfl ?_); refine bxe 2 #[.int .i64 0, .int .i64 0] 37 ?_; intro gb186 hg w3 BK186 hb; have GW186 := As.mk (gs w hg); replace HB := bs w hb; have NB185_186 := As.mk (nl hg (bx BK185.out)); have NB186_185 := As.mk (ng hg (bx BK185.out)); replace BK185 := bb BK185 hb; clear hb hg) | ((with_reducible refine gate_dst (N := 3) rfl ?_); refine bxe 3 #[.int .i64 0, .int .i64 0] 37 ?_; intro gb187 hg w4 BK187 hb; have GW187 := As.mk (gs w hg); replace HB := bs w hb; have NB185_187 := As.mk (nl hg (bx BK185.out)); have NB187_185 := As.mk (ng hg (bx BK185.out)); replace BK185 := bb BK185 hb; have NB186_187 := As.mk (nl hg (bx BK186.out)); have NB187_186 := As.mk (ng hg (bx BK186.out)); replace BK186 := bb BK186 hb; clear hb hg; have hnb5 := NB185_186.out; have hnc5 := NB186_185.out; have hnb6 := NB185_187.out; have hnc6 := NB187_185.out; obtain ⟨y7a, y7b, v7a, v7b⟩ := cl2 BK185.out; have hnb8 := NB187_186.out; have hnc8 := NB186_187.out; obtain ⟨y9a, y9b, v9a, v9b⟩ := cl2 BK187.out; obtain ⟨y10a, y10b, v10a, v10b⟩ := cl2 BK186.out))
 refine bodyPost_ret (results_cell_row rfl _ _ gb186 37 #[.int .i64 a0_0, .int .i64 a0_1] (0, 0) _ rfl (by refine pl ?_; refine blk_put (cs := #[.int .i64 a0_0, .int .i64 0]) ?_ 1 _ rfl; refine pl ?_; refine blk_put (cs := #[.int .i64 0, .int .i64 0]) ?_ 0 _ rfl; refine pl ?_; refine blk_far ?_ NB186_187.out _; refine pl ?_; refine blk_far ?_ NB186_187.out _; exact bx BK186.out) Try.underlying37 rfl (by kernel_rfl)) rfl ?_
 exact ⟨ez, be w⟩

/-! ### laws_eqCell: function 74 -/
def laws_eqCell.f (a0_0 : Bool) (a0_1 : Int) (a1_0 : Bool) (a1_1 : Int) : Option (Bool) := if (a0_0 != a1_0) = true then (some false) else (if a0_1 = a1_1 then (some true) else (some false))
set_option maxHeartbeats 8000000 in
set_option maxRecDepth 100000 in
theorem laws_eqCell.calls (a0_0 : Bool) (a0_1 : Int) (a1_0 : Bool) (a1_1 : Int) (r : Bool) (w : World) (h : laws_eqCell.f a0_0 a0_1 a1_0 a1_1 = some r) :
  Calls Try.prog 74 #[.agg #[.bool a0_0, .int .i64 a0_1], .agg #[.bool a1_0, .int .i64 a1_1]] w fun e w' => e = .returned (.bool r) ∧ Below w.heap.size w w' := by
 have hu93 := Try.underlying93; have HB := As.mk (Below.refl w.heap.size w); have H : (if (a0_0 != a1_0) = true then (some false) else (if a0_1 = a1_1 then (some true) else (some false))) = some r := h; clear h
 by_cases c3 : (a0_0 != a1_0) = true
 ·
  rw [if_pos c3] at H; have c3b0 : (a0_0 != a1_0) = true := c3; (try (have c3b1 : decide (a0_0 = a1_0) = false := by simpa using c3)); (try (have c3b2 : (a0_0 == a1_0) = false := by simpa using c3)); (try (have c3b3 : ¬ (a0_0 = a1_0) := by simpa using c3)); clear c3; obtain rfl := sj H; go_enter Try.func74, Try.ntmps74
  go_wp2_with (first | ((with_reducible refine gate_dst (N := 2) rfl ?_); refine bxe 2 #[.bool a0_0, .int .i64 a0_1] 93 ?_; intro gb188 hg w4 BK188 hb; have GW188 := As.mk (gs w hg); replace HB := bs w hb; clear hb hg) | ((with_reducible refine gate_dst (N := 3) rfl ?_); refine bxe 3 #[.bool a1_0, .int .i64 a1_1] 93 ?_; intro gb189 hg w5 BK189 hb; have GW189 := As.mk (gs w hg); replace HB := bs w hb; have NB188_189 := As.mk (nl hg (bx BK188.out)); have NB189_188 := As.mk (ng hg (bx BK188.out)); replace BK188 := bb BK188 hb; clear hb hg; have hnb6 := NB188_189.out; have hnc6 := NB189_188.out; obtain ⟨y7a, y7b, v7a, v7b⟩ := cl2 BK188.out; obtain ⟨y8a, y8b, v8a, v8b⟩ := cl2 BK189.out))
  go_ret
  exact ⟨ez, be w⟩
 rw [if_neg c3] at H
 have c3b0 : (a0_0 != a1_0) = false := by simpa using c3
 (try (have c3b1 : decide (a0_0 = a1_0) = true := by simpa using c3)); (try (have c3b2 : (a0_0 == a1_0) = true := by simpa using c3)); clear c3
 by_cases c9 : a0_1 = a1_1
 rotate_left
 ·
  rw [if_neg c9] at H; have c9b0 : (a0_1 == a1_1) = false := beq_eq_false_iff_ne.mpr c9; have c9b1 : (a0_1 != a1_1) = true := bne_iff_ne.mpr c9; obtain rfl := sj H; go_enter Try.func74, Try.ntmps74
  go_wp2_with (first | ((with_reducible refine gate_dst (N := 2) rfl ?_); refine bxe 2 #[.bool a0_0, .int .i64 a0_1] 93 ?_; intro gb188 hg w15 BK188 hb; have GW188 := As.mk (gs w hg); replace HB := bs w hb; clear hb hg) | ((with_reducible refine gate_dst (N := 3) rfl ?_); refine bxe 3 #[.bool a1_0, .int .i64 a1_1] 93 ?_; intro gb189 hg w16 BK189 hb; have GW189 := As.mk (gs w hg); replace HB := bs w hb; have NB188_189 := As.mk (nl hg (bx BK188.out)); have NB189_188 := As.mk (ng hg (bx BK188.out)); replace BK188 := bb BK188 hb; clear hb hg; have hnb17 := NB188_189.out; have hnc17 := NB189_188.out; obtain ⟨y18a, y18b, v18a, v18b⟩ := cl2 BK188.out; obtain ⟨y19a, y19b, v19a, v19b⟩ := cl2 BK189.out))
  go_ret
  exact ⟨ez, be w⟩

 rw [if_pos c9] at H; have c9b0 : (a0_1 == a1_1) = true := beq_iff_eq.mpr c9; have c9b1 : (a0_1 != a1_1) = false := bne_eq_false_iff_eq.mpr c9; clear c9; obtain rfl := sj H; go_enter Try.func74, Try.ntmps74
 go_wp2_with (first | ((with_reducible refine gate_dst (N := 2) rfl ?_); refine bxe 2 #[.bool a0_0, .int .i64 a0_1] 93 ?_; intro gb188 hg w10 BK188 hb; have GW188 := As.mk (gs w hg); replace HB := bs w hb; clear hb hg) | ((with_reducible refine gate_dst (N := 3) rfl ?_); refine bxe 3 #[.bool a1_0, .int .i64 a1_1] 93 ?_; intro gb189 hg w11 BK189 hb; have GW189 := As.mk (gs w hg); replace HB := bs w hb; have NB188_189 := As.mk (nl hg (bx BK188.out)); have NB189_188 := As.mk (ng hg (bx BK188.out)); replace BK188 := bb BK188 hb; clear hb hg; have hnb12 := NB188_189.out; have hnc12 := NB189_188.out; obtain ⟨y13a, y13b, v13a, v13b⟩ := cl2 BK188.out; obtain ⟨y14a, y14b, v14a, v14b⟩ := cl2 BK189.out))
 go_ret
 exact ⟨ez, be w⟩
/-! ### laws_eqCellS: function 54 -/
def laws_eqCellS.l0 : Nat → List (S93) → List (S93) → Int → Option (Bool)
 | 0, _, _, _ => none
 | k + 1, x0, x1, x5 => if x5 < (x0.length : Int) then (if 0 ≤ x5 then (if x5 < (x1.length : Int) then ((laws_eqCell.f ((rd_T93 x0 x5).f0) ((rd_T93 x0 x5).f1) ((rd_T93 x1 x5).f0) ((rd_T93 x1 x5).f1)).bind fun t192 => (if t192 = true then (laws_eqCellS.l0 k x0 x1 (wrap64 (x5 + 1))) else (some false))) else (none)) else (none)) else (some true)
def laws_eqCellS.f (k : Nat) (l0 : List (S93)) (l1 : List (S93)) : Option (Bool) := if (l0.length : Int) = (l1.length : Int) then (laws_eqCellS.l0 k l0 l1 0) else (some false)
theorem laws_eqCellS.mono_l : ∀ k, (∀ y0 y1 y2, LeO (laws_eqCellS.l0 k y0 y1 y2) (laws_eqCellS.l0 (k + 1) y0 y1 y2))
 | 0 => fun _ _ _ r h => by simp [laws_eqCellS.l0] at h
 | k + 1 => by
  have ih0 := laws_eqCellS.mono_l k
  ·
   intro y0 y1 y2
   unfold laws_eqCellS.l0
   with_reducible repeat' first | exact ih0 _ _ _ | exact LeO.refl _ | exact LeO.none _ | refine LeO.ite ?_ ?_ | refine LeO.bind ?_ (fun _ => ?_)
theorem laws_eqCellS.mono : ∀ a0 a1 k, LeO (laws_eqCellS.f k a0 a1) (laws_eqCellS.f (k + 1) a0 a1) := by
 intro a0 a1 k; have ih0 := laws_eqCellS.mono_l k
 unfold laws_eqCellS.f
 with_reducible repeat' first | exact ih0 _ _ _ | exact LeO.refl _ | exact LeO.none _ | refine LeO.ite ?_ ?_ | refine LeO.bind ?_ (fun _ => ?_)
def laws_eqCellS.T6 : Bool × List (List Nat × List Nat) := (true, [([], []), ([], []), ([0, 1], [0, 1]), ([2], [2]), ([], []), ([], []), ([4, 5], [4, 5]), ([6], [6]), ([3, 7], [3, 7]), ([8], [8])])
def laws_eqCellS.B6 : List Nat := [0, 0, 3, 7, 0, 0, 48, 112, 255, 511]
theorem laws_eqCellS.tab6 : rtab .any (opsOf Try.f54 6) = laws_eqCellS.T6 := by kernel_rfl
theorem laws_eqCellS.bits6 : waitsOk laws_eqCellS.T6.2 laws_eqCellS.B6 = true := by kernel_rfl
set_option maxHeartbeats 8000000 in
set_option maxRecDepth 100000 in
theorem laws_eqCellS.calls (k : Nat) (A0 : Option Addr) (c0 : Nat) (l0 : List (S93)) (A1 : Option Addr) (c1 : Nat) (l1 : List (S93)) (r : Bool) (w : World) (hr0 : Kd.C k93 w A0 l0.length l0) (hc0 : l0.length ≤ c0) (hr1 : Kd.C k93 w A1 l1.length l1) (hc1 : l1.length ≤ c1) (h : laws_eqCellS.f k l0 l1 = some r) :
  Calls Try.prog 54 #[.slice A0 l0.length c0, .slice A1 l1.length c1] w fun e w' => e = .returned (.bool r) ∧ Below w.heap.size w w' := by
 have hu93 := Try.underlying93; have HR0 := As.mk hr0; have HC0 := As.mk hc0; clear hr0 hc0; have HR1 := As.mk hr1; have HC1 := As.mk hc1; clear hr1 hc1; have HB := As.mk (Below.refl w.heap.size w); have H : (if (l0.length : Int) = (l1.length : Int) then (laws_eqCellS.l0 k l0 l1 0) else (some false)) = some r := h; clear h
 by_cases c3 : (l0.length : Int) = (l1.length : Int)
 rotate_left
 ·
  rw [if_neg c3] at H; have c3b0 : ((l0.length : Int) == (l1.length : Int)) = false := beq_eq_false_iff_ne.mpr c3; have c3b1 : ((l0.length : Int) != (l1.length : Int)) = true := bne_iff_ne.mpr c3
  have c3b2 : (l0.length == l1.length) = false := by first | simpa using c3 | (simp at c3 ⊢; omega)
  obtain rfl := sj H; go_enter Try.func54, Try.ntmps54
  go_wp2
  go_ret
  exact ⟨ez, be w⟩

 rw [if_pos c3] at H; have c3b0 : ((l0.length : Int) == (l1.length : Int)) = true := beq_iff_eq.mpr c3; have c3b1 : ((l0.length : Int) != (l1.length : Int)) = false := bne_eq_false_iff_eq.mpr c3
 have c3b2 : (l0.length == l1.length) = true := by first | simpa using c3 | (simp at c3 ⊢; omega)
 clear c3; have H' := As.mk H; clear H; go_enter Try.func54, Try.ntmps54
 go_wp2
 go_loopg [5] k (fun kq v5 w' => ∃ (x5_1 : Int), v5 = .int .i64 x5_1 ∧ As (laws_eqCellS.l0 kq l0 l1 x5_1 = some r) ∧ As (kq ≤ k) ∧ As (Below w.heap.size w w'))
 case atStart => exact ⟨(0), (by first | rfl | (simp; done) | (simp [*]; done)), H', ⟨Nat.le_refl _⟩, ⟨be w⟩⟩
 case round =>
  clear H'; (try clear c3); (try clear c3b0); (try clear c3b1); (try clear c3b2); obtain ⟨x5_1, rfl, HA, HK1, HB⟩ := hrel
  cases gk with
  | zero => exact absurd HA.out (by simp [laws_eqCellS.l0])
  | succ k1 =>
   have H := HA.out; clear HA
   simp only [laws_eqCellS.l0] at H
   by_cases c4 : x5_1 < (l0.length : Int)
   rotate_left
   ·
    rw [if_neg c4] at H; have c4b0 := decide_eq_false c4; clear c4; obtain rfl := sj H
    go_wp2
    go_ret
    exact ⟨ez, be w⟩
   rw [if_pos c4] at H; have c4b0 := decide_eq_true c4; clear c4; replace H := ia H; obtain ⟨c5b0, H⟩ := H; replace H := ia H; obtain ⟨c6b0, H⟩ := H; replace H := bo H; obtain ⟨t192, A7, H⟩ := H
   by_cases c8 : t192 = true
   ·
    subst c8; rw [if_pos rfl] at H; have H' := As.mk H; clear H
    try go_wp2
    replace HB := As.mk (below_drew1 HB.out); have p190 : 0 ≤ (x5_1 : Int) := od; have q190 : x5_1 < (l0.length : Int) := od; obtain ⟨ad190, e190, x190a, x190b⟩ := at_T93 HR0.out x5_1 p190 q190; have hw190_1 := x190b; have hw190_0 := x190a; cases e190; replace x190a := ce HB.out x190a; replace x190b := ce HB.out x190b; replace p190 := eq_true p190; replace q190 := eq_true q190; have p191 : 0 ≤ (x5_1 : Int) := od; have q191 : x5_1 < (l1.length : Int) := od; obtain ⟨ad191, e191, x191a, x191b⟩ := at_T93 HR1.out x5_1 p191 q191; have hw191_1 := x191b; have hw191_0 := x191a; cases e191; replace x191a := ce HB.out x191a; replace x191b := ce HB.out x191b; replace p191 := eq_true p191; replace q191 := eq_true q191
    refine start_ (n := 10) (S := _) (ds := []) #[O,O,O,O,O,O,O,O,O,O] (by kernel_rfl) rfl rfl (ba (cf hw190_0) (ba (cf hw190_1) (ba (cf hw191_0) (cf hw191_1)))) (fun hHeld => ?_); refine with_tabW laws_eqCellS.tab6 laws_eqCellS.bits6 (fun HT_ HW_ => ?_)
    generalize wr.drew = w9 at HB x190a x190b x191a x191b hHeld ⊢
    refine pq 0 17 HT_ _ _ ?_; refine pq 1 18 HT_ _ _ ?_; refine pq 2 19 HT_ _ _ ?_; refine pq 4 21 HT_ _ _ ?_; refine pq 5 22 HT_ _ _ ?_; refine pq 6 23 HT_ _ _ ?_; refine tq_c1c1c1c1 3 20 HT_ HW_.out hHeld _ _ ?_; refine tq_c1c1c1c1 7 24 HT_ HW_.out hHeld _ _ ?_; refine on 8 (some 25) HT_ (fun K hK => ?_); refine goS Try.func74 #[.agg #[.bool ((rd_T93 l0 x5_1).f0), .int .i64 ((rd_T93 l0 x5_1).f1)], .agg #[.bool ((rd_T93 l1 x5_1).f0), .int .i64 ((rd_T93 l1 x5_1).f1)]] ?_
    with_reducible refine (laws_eqCell.calls ((rd_T93 l0 x5_1).f0) ((rd_T93 l0 x5_1).f1) ((rd_T93 l1 x5_1).f0) ((rd_T93 l1 x5_1).f1) true _ A7.out).mono ?_
    rintro e w10 ⟨rfl, hb⟩
    refine ⟨_, rfl, ?_⟩
    replace HB := bs w hb; (try clear hb); (try clear hb2); (try clear hk); (try clear hi)
    refine hK.out _ _ (ba (cf hw190_0) (ba (cf hw190_1) (ba (cf hw191_0) (cf hw191_1)))) (fun hHeld => ?_)
    clear hK K; refine nm _ ?_; refine pq 9 26 HT_ _ _ ?_
    refine done_ (done_of HT_.out (by kernel_rfl)) ?_
    try go_wp2
    go_roundg k1
    case measure => have := HK1.out; omega
    case rel => exact ⟨(wrap64 (x5_1 + 1)), (by first | rfl | (simp; done) | (simp [*]; done)), H', ⟨by have := HK1.out; omega⟩, ⟨be w⟩⟩
   replace c8 := Bool.eq_false_iff.mpr c8; subst c8; rw [if_neg ft] at H; obtain rfl := sj H
   try go_wp2
   replace HB := As.mk (below_drew1 HB.out); have p190 : 0 ≤ (x5_1 : Int) := od; have q190 : x5_1 < (l0.length : Int) := od; obtain ⟨ad190, e190, x190a, x190b⟩ := at_T93 HR0.out x5_1 p190 q190; have hw190_1 := x190b; have hw190_0 := x190a; cases e190; replace x190a := ce HB.out x190a; replace x190b := ce HB.out x190b; replace p190 := eq_true p190; replace q190 := eq_true q190; have p191 : 0 ≤ (x5_1 : Int) := od; have q191 : x5_1 < (l1.length : Int) := od; obtain ⟨ad191, e191, x191a, x191b⟩ := at_T93 HR1.out x5_1 p191 q191; have hw191_1 := x191b; have hw191_0 := x191a; cases e191; replace x191a := ce HB.out x191a; replace x191b := ce HB.out x191b; replace p191 := eq_true p191; replace q191 := eq_true q191
   refine start_ (n := 10) (S := _) (ds := []) #[O,O,O,O,O,O,O,O,O,O] (by kernel_rfl) rfl rfl (ba (cf hw190_0) (ba (cf hw190_1) (ba (cf hw191_0) (cf hw191_1)))) (fun hHeld => ?_); refine with_tabW laws_eqCellS.tab6 laws_eqCellS.bits6 (fun HT_ HW_ => ?_)
   generalize wr.drew = w11 at HB x190a x190b x191a x191b hHeld ⊢
   refine pq 0 17 HT_ _ _ ?_; refine pq 1 18 HT_ _ _ ?_; refine pq 2 19 HT_ _ _ ?_; refine pq 4 21 HT_ _ _ ?_; refine pq 5 22 HT_ _ _ ?_; refine pq 6 23 HT_ _ _ ?_; refine tq_c1c1c1c1 3 20 HT_ HW_.out hHeld _ _ ?_; refine tq_c1c1c1c1 7 24 HT_ HW_.out hHeld _ _ ?_; refine on 8 (some 25) HT_ (fun K hK => ?_); refine goS Try.func74 #[.agg #[.bool ((rd_T93 l0 x5_1).f0), .int .i64 ((rd_T93 l0 x5_1).f1)], .agg #[.bool ((rd_T93 l1 x5_1).f0), .int .i64 ((rd_T93 l1 x5_1).f1)]] ?_
   with_reducible refine (laws_eqCell.calls ((rd_T93 l0 x5_1).f0) ((rd_T93 l0 x5_1).f1) ((rd_T93 l1 x5_1).f0) ((rd_T93 l1 x5_1).f1) false _ A7.out).mono ?_
   rintro e w12 ⟨rfl, hb⟩
   refine ⟨_, rfl, ?_⟩
   replace HB := bs w hb; (try clear hb); (try clear hb2); (try clear hk); (try clear hi)
   refine hK.out _ _ (ba (cf hw190_0) (ba (cf hw190_1) (ba (cf hw191_0) (cf hw191_1)))) (fun hHeld => ?_)
   clear hK K; refine nm _ ?_; refine pq 9 26 HT_ _ _ ?_
   refine done_ (done_of HT_.out (by kernel_rfl)) ?_
   try go_wp2
   go_ret
   exact ⟨ez, be w⟩
/-! ### laws_eqIntS: function 55 -/
def laws_eqIntS.l0 : Nat → List Int → List Int → Int → Option (Bool)
 | 0, _, _, _ => none
 | k + 1, x0, x1, x5 => if x5 < (x0.length : Int) then (if 0 ≤ x5 then (if x5 < (x1.length : Int) then (if (rd x0 x5) = (rd x1 x5) then (laws_eqIntS.l0 k x0 x1 (wrap64 (x5 + 1))) else (some false)) else (none)) else (none)) else (some true)
def laws_eqIntS.f (k : Nat) (l0 : List Int) (l1 : List Int) : Option (Bool) := if (l0.length : Int) = (l1.length : Int) then (laws_eqIntS.l0 k l0 l1 0) else (some false)
theorem laws_eqIntS.mono_l : ∀ k, (∀ y0 y1 y2, LeO (laws_eqIntS.l0 k y0 y1 y2) (laws_eqIntS.l0 (k + 1) y0 y1 y2))
 | 0 => fun _ _ _ r h => by simp [laws_eqIntS.l0] at h
 | k + 1 => by
  have ih0 := laws_eqIntS.mono_l k
  ·
   intro y0 y1 y2
   unfold laws_eqIntS.l0
   with_reducible repeat' first | exact ih0 _ _ _ | exact LeO.refl _ | exact LeO.none _ | refine LeO.ite ?_ ?_ | refine LeO.bind ?_ (fun _ => ?_)
theorem laws_eqIntS.mono : ∀ a0 a1 k, LeO (laws_eqIntS.f k a0 a1) (laws_eqIntS.f (k + 1) a0 a1) := by
 intro a0 a1 k; have ih0 := laws_eqIntS.mono_l k
 unfold laws_eqIntS.f
 with_reducible repeat' first | exact ih0 _ _ _ | exact LeO.refl _ | exact LeO.none _ | refine LeO.ite ?_ ?_ | refine LeO.bind ?_ (fun _ => ?_)
set_option maxHeartbeats 8000000 in
set_option maxRecDepth 100000 in
theorem laws_eqIntS.calls (k : Nat) (A0 : Option Addr) (c0 : Nat) (l0 : List Int) (A1 : Option Addr) (c1 : Nat) (l1 : List Int) (r : Bool) (w : World) (hr0 : Kd.C (Kd.int .i64) w A0 l0.length l0) (hc0 : l0.length ≤ c0) (hr1 : Kd.C (Kd.int .i64) w A1 l1.length l1) (hc1 : l1.length ≤ c1) (h : laws_eqIntS.f k l0 l1 = some r) :
  Calls Try.prog 55 #[.slice A0 l0.length c0, .slice A1 l1.length c1] w fun e w' => e = .returned (.bool r) ∧ Drawn0 w w' := by
 have HR0 := As.mk hr0; have HC0 := As.mk hc0; clear hr0 hc0; have HR1 := As.mk hr1; have HC1 := As.mk hc1; clear hr1 hc1; have H : (if (l0.length : Int) = (l1.length : Int) then (laws_eqIntS.l0 k l0 l1 0) else (some false)) = some r := h; clear h
 by_cases c3 : (l0.length : Int) = (l1.length : Int)
 rotate_left
 ·
  rw [if_neg c3] at H; have c3b0 : ((l0.length : Int) == (l1.length : Int)) = false := beq_eq_false_iff_ne.mpr c3; have c3b1 : ((l0.length : Int) != (l1.length : Int)) = true := bne_iff_ne.mpr c3
  have c3b2 : (l0.length == l1.length) = false := by first | simpa using c3 | (simp at c3 ⊢; omega)
  obtain rfl := sj H; go_enter Try.func55, Try.ntmps55
  go_wp2
  go_ret
  exact dw

 rw [if_pos c3] at H; have c3b0 : ((l0.length : Int) == (l1.length : Int)) = true := beq_iff_eq.mpr c3; have c3b1 : ((l0.length : Int) != (l1.length : Int)) = false := bne_eq_false_iff_eq.mpr c3
 have c3b2 : (l0.length == l1.length) = true := by first | simpa using c3 | (simp at c3 ⊢; omega)
 clear c3; have H' := As.mk H; clear H; go_enter Try.func55, Try.ntmps55
 go_wp2
 go_loopg [5] k (fun kq v5 w' => ∃ (x5_1 : Int), v5 = .int .i64 x5_1 ∧ As (laws_eqIntS.l0 kq l0 l1 x5_1 = some r) ∧ As (kq ≤ k) ∧ Drawn0 w w')
 case atStart => exact ⟨(0), (by first | rfl | (simp; done) | (simp [*]; done)), H', ⟨Nat.le_refl _⟩, by repeat (first | exact Drawn0.refl _ | apply Drawn0.step)⟩
 case round =>
  clear H'; (try clear c3); (try clear c3b0); (try clear c3b1); (try clear c3b2); obtain ⟨x5_1, rfl, HA, HK1, ⟨m1, rfl⟩⟩ := hrel
  cases gk with
  | zero => exact absurd HA.out (by simp [laws_eqIntS.l0])
  | succ k1 =>
   have H := HA.out; clear HA
   simp only [laws_eqIntS.l0] at H
   by_cases c4 : x5_1 < (l0.length : Int)
   rotate_left
   ·
    rw [if_neg c4] at H; have c4b0 := decide_eq_false c4; clear c4; obtain rfl := sj H
    go_wp2
    go_ret
    exact dw
   rw [if_pos c4] at H; have c4b0 := decide_eq_true c4; clear c4; replace H := ia H; obtain ⟨c5b0, H⟩ := H; replace H := ia H; obtain ⟨c6b0, H⟩ := H
   by_cases c7 : (rd l0 x5_1) = (rd l1 x5_1)
   rotate_left
   ·
    rw [if_neg c7] at H; have c7b0 : ((rd l0 x5_1) == (rd l1 x5_1)) = false := beq_eq_false_iff_ne.mpr c7; have c7b1 : ((rd l0 x5_1) != (rd l1 x5_1)) = true := bne_iff_ne.mpr c7; obtain rfl := sj H; have p193 : 0 ≤ (x5_1 : Int) := od; have q193 : x5_1 < (l0.length : Int) := od; obtain ⟨ad193, e193, x193a⟩ := Kd.at_int HR0.out x5_1 p193 q193; cases e193; replace p193 := eq_true p193; replace q193 := eq_true q193; have p194 : 0 ≤ (x5_1 : Int) := od; have q194 : x5_1 < (l1.length : Int) := od; obtain ⟨ad194, e194, x194a⟩ := Kd.at_int HR1.out x5_1 p194 q194; cases e194; replace p194 := eq_true p194; replace q194 := eq_true q194
    go_wp2
    (try go_quiet (fail))
    try go_wp2
    go_ret
    exact dw
   rw [if_pos c7] at H; have c7b0 : ((rd l0 x5_1) == (rd l1 x5_1)) = true := beq_iff_eq.mpr c7; have c7b1 : ((rd l0 x5_1) != (rd l1 x5_1)) = false := bne_eq_false_iff_eq.mpr c7; clear c7; have H' := As.mk H; clear H; have p193 : 0 ≤ (x5_1 : Int) := od; have q193 : x5_1 < (l0.length : Int) := od; obtain ⟨ad193, e193, x193a⟩ := Kd.at_int HR0.out x5_1 p193 q193; cases e193; replace p193 := eq_true p193; replace q193 := eq_true q193; have p194 : 0 ≤ (x5_1 : Int) := od; have q194 : x5_1 < (l1.length : Int) := od; obtain ⟨ad194, e194, x194a⟩ := Kd.at_int HR1.out x5_1 p194 q194; cases e194; replace p194 := eq_true p194; replace q194 := eq_true q194
   go_wp2
   (try go_quiet (fail))
   try go_wp2
   go_roundg k1
   case measure => have := HK1.out; omega
   case rel => exact ⟨(wrap64 (x5_1 + 1)), (by first | rfl | (simp; done) | (simp [*]; done)), H', ⟨by have := HK1.out; omega⟩, by repeat (first | exact Drawn0.refl _ | apply Drawn0.step)⟩
end Go.Proofs.Ytnlhjblfemgggaa.PFnExactMoved
