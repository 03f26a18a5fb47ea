/- Written by a program of this session (a turned copy of the kit's print): a contract for each Go function. No condition beside those in each statement. -/
import Derived.Test.YtcoapbnbakmkoaaGreatDoorPFnExactShowProgramx0
import Derived.Test.YtcoapbnbakmkoaaGreatDoorPFnExactShowProgramx1
namespace Go.Proofs.YtcoapbnbakmkoaaGreatDoor.PFnExactShowProgram
open Go.RowKit Go.Proofs.YtcoapbnbakmkoaaGreatDoor.Given Go.Proofs.YtcoapbnbakmkoaaGreatDoorW.PrintWords Go.Proofs.YtcoapbnbakmkoaaGreatDoorW.PrintLast Go.Proofs.YtcoapbnbakmkoaaGreatDoorW.PrintMore
attribute [local go_sem] max2_int min2_int max_two min_two max_three min_three max_four min_four   -- for this text's walks alone
set_option linter.unusedVariables false
set_option linter.unusedSimpArgs false

/-! ### laws_toParamS: function 93 -/
def laws_toParamS.l0 : Nat → List (S124) → List (S58) → Int → Option ((List (S58)))
 | 0, _, _, _ => none
 | k + 1, x0, x3, x4 => if x4 < (x0.length : Int) then (if 0 ≤ x4 then ((laws_toParam.f ((rd_T124 x0 x4).f0) ((rd_T124 x0 x4).f1)).bind fun bt144 => (if x4 < (x3.length : Int) then (laws_toParamS.l0 k x0 (x3.set (x4 : Int).toNat (⟨bt144.1, bt144.2⟩ : S58)) (wrap64 (x4 + 1))) else (none))) else (none)) else (some x3)
def laws_toParamS.f (k : Nat) (l0 : List (S124)) : Option ((List (S58))) := if 0 ≤ (l0.length : Int) then (if ((l0.length : Int) : Int).toNat ≤ 11728124029610 then (laws_toParamS.l0 k l0 (List.replicate ((l0.length : Int) : Int).toNat z58) 0) else (none)) else (none)
theorem laws_toParamS.mono_l : ∀ k, (∀ y0 y1 y2, LeO (laws_toParamS.l0 k y0 y1 y2) (laws_toParamS.l0 (k + 1) y0 y1 y2))
 | 0 => fun _ _ _ r h => by simp [laws_toParamS.l0] at h
 | k + 1 => by
  have ih0 := laws_toParamS.mono_l k
  ·
   intro y0 y1 y2
   unfold laws_toParamS.l0
   with_reducible repeat' first | exact ih0 _ _ _ | exact LeO.refl _ | exact LeO.none _ | refine LeO.ite ?_ ?_ | refine LeO.bind ?_ (fun _ => ?_)
theorem laws_toParamS.mono : ∀ a0 k, LeO (laws_toParamS.f k a0) (laws_toParamS.f (k + 1) a0) := by
 intro a0 k; have ih0 := laws_toParamS.mono_l k
 unfold laws_toParamS.f
 with_reducible repeat' first | exact ih0 _ _ _ | exact LeO.refl _ | exact LeO.none _ | refine LeO.ite ?_ ?_ | refine LeO.bind ?_ (fun _ => ?_)
set_option maxHeartbeats 8000000 in
set_option maxRecDepth 100000 in
theorem laws_toParamS.calls (k : Nat) (A0 : Option Addr) (c0 : Nat) (l0 : List (S124)) (r : List (S58)) (w : World) (hr0 : Kd.C k124 w A0 l0.length l0) (hc0 : l0.length ≤ c0) (h : laws_toParamS.f k l0 = some r) :
  Calls Tryz.prog 93 #[.slice A0 l0.length c0] w fun e w' => ∃ v0_ : Value, e = .returned (v0_) ∧ Kd.R k58 58 w' w.heap.size (fun _ => True) v0_ r ∧ Below w.heap.size w w' := by
 have hu124 := Tryz.underlying124; have hu58 := Tryz.underlying58; have HR0 := As.mk hr0; have HC0 := As.mk hc0; clear hr0 hc0; have HB := As.mk (Below.refl w.heap.size w); have H : (if 0 ≤ (l0.length : Int) then (if ((l0.length : Int) : Int).toNat ≤ 11728124029610 then (laws_toParamS.l0 k l0 (List.replicate ((l0.length : Int) : Int).toNat z58) 0) else (none)) else (none)) = some r := h; clear h
 by_cases c2 : 0 ≤ (l0.length : Int)
 rotate_left; · rw [if_neg c2] at H; exact absurd H (by simp)

 rw [if_pos c2] at H; have c2b0 := eq_true c2; have c2b1 := decide_eq_true c2; clear c2; replace H := ie H; obtain ⟨c3b0, c3b1, H⟩ := H
 obtain ⟨y140, hy140⟩ : ∃ y_ : List (S58), y_ = (List.replicate ((l0.length : Int) : Int).toNat z58) := ⟨_, rfl⟩
 replace H : (laws_toParamS.l0 k l0 y140 0) = some r := by first | (rw [hy140]; with_reducible exact H) | (have H2_ := (Option.bind_some _ _).symm.trans H; rw [hy140]; with_reducible exact H2_) | (have H2_ := (Option.bind_some _ _).symm.trans H; with_reducible exact H2_) | with_reducible exact H | (rw [hy140]; exact H) | exact H
 have Ny140 := As.mk hy140; clear hy140; have H' := As.mk H; clear H; go_enter Tryz.func93, Tryz.ntmps93
 go_wp2_with (first | ((with_reducible refine gate_dst (N := 7) rfl ?_); refine Kd.R_make k58 _ 58 rfl (N := 7) rfl 54 _ _ rfl (l0.length : Int) rfl rfl Tryz.underlying54 (.agg #[(.string ⟨#[]⟩), (.int .i64 0)]) 24 info58 rfl (by decide) (by omega) z58 (ok := fun _ => True) (okp := fun _ => True) (k58_mkM _ _ _ z58 ) (fun _ hk => hk) trivial (of_decide_eq_true (by first | (with_reducible assumption) | assumption)) (Nat.le_trans (Nat.mul_le_mul_right _ (of_decide_eq_true (by first | (with_reducible assumption) | assumption) : (l0.length : Int).toNat ≤ 11728124029610)) (by omega)) (Below.refl _ _) (Nat.le_refl _) ?_; intro v141 w4 ho5 hb hg_ hnew_; clear hg_ hnew_; (first | rw [← Ny140.out] at ho5 | (simp only [Int.reduceToNat] at ho5; rw [← Ny140.out] at ho5)); have HO142 := As.mk (Kd.R_lower ho5 (below_size (be w))); replace HB := bs w hb; clear hb ho5))
 go_loopg [4] k (fun kq v4 w' => ∃ (x3_1 : List (S58)) (x4_1 : Int), v4 = .int .i64 x4_1 ∧ As (laws_toParamS.l0 kq l0 x3_1 x4_1 = some r) ∧ As (kq ≤ k) ∧ As (Kd.R k58 58 w' w.heap.size (fun _ => True) v141 x3_1) ∧ As (Below w.heap.size w w'))
 case atStart => exact ⟨(y140), (0), (by first | rfl | (simp; done) | (simp [*]; done)), H', ⟨Nat.le_refl _⟩, ⟨by (with_reducible repeat (first | apply Kd.R_alloc | apply Kd.R_drewN | apply Kd.R_drew)); exact HO142.out⟩, ⟨be w⟩⟩
 case round =>
  clear H'; (try clear c2); (try clear c2b0); (try clear c2b1); (try clear c3); (try clear c3b0); (try clear c3b1); obtain ⟨x3_1, x4_1, rfl, HA, HK1, HO_3, HB⟩ := hrel
  cases gk with
  | zero => exact absurd HA.out (by simp [laws_toParamS.l0])
  | succ k1 =>
   have H := HA.out; clear HA
   simp only [laws_toParamS.l0] at H
   by_cases c6 : x4_1 < (l0.length : Int)
   rotate_left
   ·
    rw [if_neg c6] at H; have c6b0 := decide_eq_false c6; clear c6; obtain rfl := sj H
    go_wp2
    go_ret
    exact ⟨_, ez, by (with_reducible repeat (first | apply Kd.R_alloc | apply Kd.R_drewN | apply Kd.R_drew)); exact HO_3.out, be w⟩
   rw [if_pos c6] at H; have c6b0 := decide_eq_true c6; clear c6; replace H := ia H; obtain ⟨c7b0, H⟩ := H; replace H := bo H; obtain ⟨⟨t144, t145⟩, A8, H⟩ := H
   try dsimp only at H
   replace H := ia H; obtain ⟨c9b0, H⟩ := H
   obtain ⟨y146, hy146⟩ : ∃ y_ : List (S58), y_ = (x3_1.set (x4_1 : Int).toNat (⟨t144, t145⟩ : S58)) := ⟨_, rfl⟩
   replace H : (laws_toParamS.l0 k1 l0 y146 (wrap64 (x4_1 + 1))) = some r := by first | (rw [hy146]; with_reducible exact H) | (have H2_ := (Option.bind_some _ _).symm.trans H; rw [hy146]; with_reducible exact H2_) | (have H2_ := (Option.bind_some _ _).symm.trans H; with_reducible exact H2_) | with_reducible exact H | (rw [hy146]; exact H) | exact H
   have Ny146 := As.mk hy146; clear hy146; have H' := As.mk H; clear H; obtain ⟨ad143, e143, p143, q143, x143a, x143b⟩ := bt_T124 HB.out HR0.out x4_1 od od; cases e143
   go_wp2_with (first | ((with_reducible refine gate_callee (f := 111) rfl ?_); refine goL (some 20) Tryz.func111 #[.agg #[.string ((rd_T124 l0 x4_1).f0), .int .i64 ((rd_T124 l0 x4_1).f1)]] ?_; (with_reducible refine (laws_toParam.calls ((rd_T124 l0 x4_1).f0) ((rd_T124 l0 x4_1).f1) t144 t145 _ A8.out).mono ?_); rintro e w11 ⟨rfl, hb⟩; refine ⟨_, rfl, ?_⟩; replace HO_3 := As.mk (Kd.R_below (by (with_reducible repeat (first | apply Kd.R_alloc | apply Kd.R_drewN | apply Kd.R_drew)); exact HO_3.out) hb); replace HB := bs w hb; (try clear hb); (try clear hk); have p10 : 0 ≤ (x4_1 : Int) := od; have q10 : (x4_1 : Int) < ((x3_1.length : Int) : Int) := od; obtain ⟨go10, co10, eo10, gb10, gl10, cl10, HG10⟩ := Kd.R_form HO_3.out (by omega); (first | cases eo10 | (injection eo10 with ea_ en_ ec_; (first | subst ea_ | (injection ea_ with ea_; subst ea_)); subst ec_; clear en_)); have GB10 := As.mk gb10; have GG10 := As.mk HG10; clear gb10 gl10 HG10; obtain ⟨ce10, hcl10, hM10, hcc10, hfr10⟩ := Kd.R_elem HO_3.out z58 (x4_1 : Int) p10 q10; obtain rfl := k58_openM hM10; have x10a : w11.cell? ⟨go10, (x4_1 : Int).toNat * 2, none⟩ = some (.string ((rd_T58 x3_1 x4_1).f0)) := hcc10 0 _ rfl; have x10b : w11.cell? ⟨go10, (x4_1 : Int).toNat * 2 + 1, none⟩ = some (.int .i64 ((rd_T58 x3_1 x4_1).f1)) := hcc10 1 _ rfl; have f10a : w11.frozen? ⟨go10, (x4_1 : Int).toNat * 2, none⟩ = false := hfr10 0; have f10b : w11.frozen? ⟨go10, (x4_1 : Int).toNat * 2 + 1, none⟩ = false := hfr10 1; clear hcl10 hcc10 hfr10 hM10; replace p10 := eq_true p10; replace q10 := eq_true q10; have HX12 := As.mk (show Kd.R k58 58 w11 w.heap.size (fun _ => True) (.slice (some ⟨go10, 0, none⟩) x3_1.length co10) x3_1 from (by (with_reducible repeat (first | apply Kd.R_alloc | apply Kd.R_drewN | apply Kd.R_drew)); exact HO_3.out)); obtain ⟨ce12, hcl12, hM12, hcc12, hfr12⟩ := Kd.R_elem HX12.out z58 (x4_1 : Int) (of_decide_eq_true (by first | (with_reducible assumption) | assumption)) (by have h_ : (x4_1 : Int) < ((x3_1.length : Int) : Int) := od; first | exact h_ | (have e_ := (Kd.R_reads' HO_3.out).1; omega) | simpa using h_); obtain rfl := k58_openM hM12; have HP12 := Kd.R_seg HX12.out (x4_1 : Int) (of_decide_eq_true (by first | (with_reducible assumption) | assumption)) (by have h_ : (x4_1 : Int) < ((x3_1.length : Int) : Int) := od; first | exact h_ | (have e_ := (Kd.R_reads' HO_3.out).1; omega) | simpa using h_) (seg := [.string t144, .int .i64 t145]) (j := 0) hcl12 hcc12 (show 2 ≤ 2 from by decide) (x' := (⟨t144, t145⟩ : S58)) (k58_mkM _ _ _ (⟨t144, t145⟩ : S58) ) (fun _ hk => hk); have x12a := hcc12 0 _ rfl; (try simp only [show (k58).sz = 2 from rfl, Nat.mul_one, Nat.add_zero] at x12a); have f12a := hfr12 0; (try simp only [show (k58).sz = 2 from rfl, Nat.mul_one, Nat.add_zero] at f12a); have x12b := hcc12 1 _ rfl; (try simp only [show (k58).sz = 2 from rfl, Nat.mul_one, Nat.add_zero] at x12b); have f12b := hfr12 1; (try simp only [show (k58).sz = 2 from rfl, Nat.mul_one, Nat.add_zero] at f12b); clear hcl12 hcc12 hfr12 hM12) | ((with_reducible refine gate_store (t := 58) (p := 21) rfl ?_); refine store_event (t := 58) (p := 21) (v := ?vo_w13) (w1 := ((w11.setCell ⟨go10, (x4_1 : Int).toNat * 2, none⟩ (.string t144)).setCell ⟨go10, (x4_1 : Int).toNat * 2 + 1, none⟩ (.int .i64 t145))) ?hg ?ho ?hn ?hr ?_; (case ho => rfl); (case hg => rfl); (case hn => rfl); (case hr => first | (go_simp; done) | (go_simp; rfl)); intro w13 hw; have hg : w11.grownBy w13 (some go10) := (by rw [hw]; exact HP12.2); have hp_ : Kd.R k58 58 w13 w.heap.size (fun _ => True) (.slice (some ⟨go10, 0, none⟩) x3_1.length co10) y146 := (by rw [hw, Ny146.out]; exact HP12.1); clear HP12; replace HO_3 := As.mk (hp_); replace HB := As.mk ((by rw [hw]; exact below_set (below_set (HB.out) GB10.out) GB10.out : Below w.heap.size w w13)); clear hg hw hp_))
   go_roundg k1
   case measure => have := HK1.out; omega
   case rel => exact ⟨(y146), (wrap64 (x4_1 + 1)), (by first | rfl | (simp; done) | (simp [*]; done)), H', ⟨by have := HK1.out; omega⟩, ⟨by (with_reducible repeat (first | apply Kd.R_alloc | apply Kd.R_drewN | apply Kd.R_drew)); exact HO_3.out⟩, ⟨be w⟩⟩
/-! ### laws_toFn: function 67 -/
def laws_toFn.f (k : Nat) (a0_0 : ByteArray) (l0_1 : List (S124)) (a0_2 : Int) (a0_3 : Int) (a0_4 : Int) : Option (ByteArray × (List (S58)) × Int × Int × Int) := (laws_toParamS.f k l0_1).bind fun t150 => (some (a0_0, t150, a0_2, a0_3, a0_4))
theorem laws_toFn.mono : ∀ a0 a1 a2 a3 a4 k, LeO (laws_toFn.f k a0 a1 a2 a3 a4) (laws_toFn.f (k + 1) a0 a1 a2 a3 a4) := by
 intro a0 a1 a2 a3 a4 k
 unfold laws_toFn.f
 with_reducible repeat' first | exact laws_toParamS.mono _ _ | exact LeO.refl _ | exact LeO.none _ | refine LeO.ite ?_ ?_ | refine LeO.bind ?_ (fun _ => ?_)
set_option maxHeartbeats 8000000 in
set_option maxRecDepth 100000 in
theorem laws_toFn.calls (k : Nat) (a0_0 : ByteArray) (A0_1 : Option Addr) (c0_1 : Nat) (l0_1 : List (S124)) (a0_2 : Int) (a0_3 : Int) (a0_4 : Int) (r1 : ByteArray) (r2 : List (S58)) (r3 : Int) (r4 : Int) (r5 : Int) (w : World) (hr0_1 : Kd.C k124 w A0_1 l0_1.length l0_1) (hc0_1 : l0_1.length ≤ c0_1) (h : laws_toFn.f k a0_0 l0_1 a0_2 a0_3 a0_4 = some (r1, r2, r3, r4, r5)) :
  Calls Tryz.prog 67 #[.agg #[.string a0_0, .slice A0_1 l0_1.length c0_1, .int .i64 a0_2, .int .i64 a0_3, .int .i64 a0_4]] w fun e w' => ∃ v1_ : Value, e = .returned (.agg #[.string r1, v1_, .int .i64 r3, .int .i64 r4, .int .i64 r5]) ∧ Kd.R k58 58 w' w.heap.size (fun _ => True) v1_ r2 ∧ Below w.heap.size w w' := by
 have hu84 := Tryz.underlying84; have hu56 := Tryz.underlying56; have HR0_1 := As.mk hr0_1; have HC0_1 := As.mk hc0_1; clear hr0_1 hc0_1; have HB := As.mk (Below.refl w.heap.size w); have H : ((laws_toParamS.f k l0_1).bind fun t150 => (some (a0_0, t150, a0_2, a0_3, a0_4))) = some (r1, r2, r3, r4, r5) := h; clear h; replace H := bo H; obtain ⟨t150, A2, H⟩ := H
 simp only [Option.some.injEq, Prod.mk.injEq] at H
 obtain ⟨rfl, rfl, rfl, rfl, rfl⟩ := H; go_enter Tryz.func67, Tryz.ntmps67
 go_wp2_with (first | ((with_reducible refine gate_dst (N := 1) rfl ?_); refine bxe 1 #[.string a0_0, .slice A0_1 l0_1.length c0_1, .int .i64 a0_2, .int .i64 a0_3, .int .i64 a0_4] 84 ?_; intro gb147 hg w3 BK147 hb; have GW147 := As.mk (gs w hg); replace HB := bs w hb; clear hb hg) | ((with_reducible refine gate_dst (N := 2) rfl ?_); refine bxe 2 #[.string (⟨#[]⟩ : ByteArray), .slice none 0 0, .int .i64 0, .int .i64 0, .int .i64 0] 56 ?_; intro gb148 hg w4 BK148 hb; have GW148 := As.mk (gs w hg); replace HB := bs w hb; have NB147_148 := As.mk (nl hg (bx BK147.out)); have NB148_147 := As.mk (ng hg (bx BK147.out)); replace BK147 := bb BK147 hb; clear hb hg) | ((with_reducible refine gate_dst (N := 3) rfl ?_); refine bxe 3 #[.string (⟨#[]⟩ : ByteArray), .slice none 0 0, .int .i64 0, .int .i64 0, .int .i64 0] 56 ?_; intro gb149 hg w5 BK149 hb; have GW149 := As.mk (gs w hg); replace HB := bs w hb; have NB147_149 := As.mk (nl hg (bx BK147.out)); have NB149_147 := As.mk (ng hg (bx BK147.out)); replace BK147 := bb BK147 hb; have NB148_149 := As.mk (nl hg (bx BK148.out)); have NB149_148 := As.mk (ng hg (bx BK148.out)); replace BK148 := bb BK148 hb; clear hb hg; have hnb6 := NB147_148.out; have hnc6 := NB148_147.out; have hnb7 := NB147_149.out; have hnc7 := NB149_147.out; obtain ⟨y8a, y8b, y8c, y8d, y8e, v8a, v8b, v8c, v8d, v8e⟩ := cl5 BK147.out; have hnb9 := NB149_148.out; have hnc9 := NB148_149.out; obtain ⟨y10a, y10b, y10c, y10d, y10e, v10a, v10b, v10c, v10d, v10e⟩ := cl5 BK149.out) | ((with_reducible refine gate_callee (f := 93) rfl ?_); refine goL (some 9) Tryz.func93 #[.slice A0_1 l0_1.length c0_1] ?_; (with_reducible refine (laws_toParamS.calls k _ _ l0_1 t150 _ (cb HR0_1) HC0_1.out A2.out).mono ?_); rintro e w11 ⟨v151, rfl, ho0, hb⟩; refine ⟨_, rfl, ?_⟩; have HO152 := As.mk (Kd.R_lower ho0 (below_size (be w))); replace BK147 := As.mk (blk_below (g := gb147) (o := .cells #[.string a0_0, .slice A0_1 l0_1.length c0_1, .int .i64 a0_2, .int .i64 a0_3, .int .i64 a0_4] 84 (0, 0)) (by refine pl ?_; refine blk_far ?_ NB147_149.out _; exact bx BK147.out) hb); replace BK148 := As.mk (blk_below (g := gb148) (o := .cells #[.string (⟨#[]⟩ : ByteArray), .slice none 0 0, .int .i64 0, .int .i64 0, .int .i64 0] 56 (0, 0)) (by refine pl ?_; refine blk_far ?_ NB148_149.out _; exact bx BK148.out) hb); replace BK149 := As.mk (blk_below (g := gb149) (o := .cells #[.string a0_0, .slice none 0 0, .int .i64 0, .int .i64 0, .int .i64 0] 56 (0, 0)) (by refine pl ?_; refine blk_put (cs := #[.string (⟨#[]⟩ : ByteArray), .slice none 0 0, .int .i64 0, .int .i64 0, .int .i64 0]) ?_ 0 _ rfl; exact bx BK149.out) hb); replace HB := bs w hb; (try clear hb); (try clear ho0); obtain ⟨Ao12, co12, eo12⟩ := Kd.R_slice HO152.out; subst eo12; obtain ⟨y13a, y13b, y13c, y13d, y13e, v13a, v13b, v13c, v13d, v13e⟩ := cl5 BK149.out; obtain ⟨y14a, y14b, y14c, y14d, y14e, v14a, v14b, v14c, v14d, v14e⟩ := cl5 BK147.out; obtain ⟨y15a, y15b, y15c, y15d, y15e, v15a, v15b, v15c, v15d, v15e⟩ := cl5 BK148.out))
 refine bodyPost_ret (results_cell_row rfl _ _ gb148 56 #[.string a0_0, .slice Ao12 t150.length co12, .int .i64 a0_2, .int .i64 a0_3, .int .i64 a0_4] (0, 0) _ rfl (by refine pl ?_; refine blk_put (cs := #[.string a0_0, .slice Ao12 t150.length co12, .int .i64 a0_2, .int .i64 a0_3, .int .i64 0]) ?_ 4 _ rfl; refine pl ?_; refine blk_put (cs := #[.string a0_0, .slice Ao12 t150.length co12, .int .i64 a0_2, .int .i64 0, .int .i64 0]) ?_ 3 _ rfl; refine pl ?_; refine blk_put (cs := #[.string a0_0, .slice Ao12 t150.length co12, .int .i64 0, .int .i64 0, .int .i64 0]) ?_ 2 _ rfl; refine pl ?_; refine blk_put (cs := #[.string a0_0, .slice none 0 0, .int .i64 0, .int .i64 0, .int .i64 0]) ?_ 1 _ rfl; refine pl ?_; refine blk_put (cs := #[.string (⟨#[]⟩ : ByteArray), .slice none 0 0, .int .i64 0, .int .i64 0, .int .i64 0]) ?_ 0 _ rfl; refine pl ?_; refine blk_far ?_ NB148_149.out _; refine pl ?_; refine blk_far ?_ NB148_149.out _; refine pl ?_; refine blk_far ?_ NB148_149.out _; refine pl ?_; refine blk_far ?_ NB148_149.out _; exact bx BK148.out) Tryz.underlying56 rfl (by kernel_rfl)) rfl ?_
 exact ⟨_, ez, by (with_reducible repeat (first | apply Kd.R_alloc | apply Kd.R_drewN | apply Kd.R_drew)); exact Kd.R_mono (Kd.R_far (p := ⟨gb148, 4, none⟩) (Kd.R_far (p := ⟨gb148, 3, none⟩) (Kd.R_far (p := ⟨gb148, 2, none⟩) (Kd.R_far (p := ⟨gb148, 1, none⟩) (Kd.R_far (p := ⟨gb148, 0, none⟩) (Kd.R_far (p := ⟨gb149, 4, none⟩) (Kd.R_far (p := ⟨gb149, 3, none⟩) (Kd.R_far (p := ⟨gb149, 2, none⟩) (Kd.R_far (p := ⟨gb149, 1, none⟩) (Kd.R_types (Kd.R_types HO152.out BK149.out (by decide)) BK148.out (by decide)) (fun _ hk => hk.1.2) (.slice Ao12 t150.length co12)) (fun _ hk => hk.1.2) (.int .i64 a0_2)) (fun _ hk => hk.1.2) (.int .i64 a0_3)) (fun _ hk => hk.1.2) (.int .i64 a0_4)) (fun _ hk => hk.2) (.string a0_0)) (fun _ hk => hk.2) (.slice Ao12 t150.length co12)) (fun _ hk => hk.2) (.int .i64 a0_2)) (fun _ hk => hk.2) (.int .i64 a0_3)) (fun _ hk => hk.2) (.int .i64 a0_4)) (fun _ hk => trivial), be w⟩

/-! ### laws_toFnS: function 35 -/
def laws_toFnS.l0 : Nat → List (S84) → List (S56) → Int → Option ((List (S56)))
 | 0, _, _, _ => none
 | k + 1, x0, x3, x4 => if x4 < (x0.length : Int) then (if 0 ≤ x4 then ((laws_toFn.f k ((rd_T84 x0 x4).f0) ((rd_T84 x0 x4).f1) ((rd_T84 x0 x4).f2) ((rd_T84 x0 x4).f3) ((rd_T84 x0 x4).f4)).bind fun bt157 => (if x4 < (x3.length : Int) then (laws_toFnS.l0 k x0 (x3.set (x4 : Int).toNat (⟨bt157.1, bt157.2.1, bt157.2.2.1, bt157.2.2.2.1, bt157.2.2.2.2⟩ : S56)) (wrap64 (x4 + 1))) else (none))) else (none)) else (some x3)
def laws_toFnS.f (k : Nat) (l0 : List (S84)) : Option ((List (S56))) := if 0 ≤ (l0.length : Int) then (if ((l0.length : Int) : Int).toNat ≤ 4398046511104 then (laws_toFnS.l0 k l0 (List.replicate ((l0.length : Int) : Int).toNat z56) 0) else (none)) else (none)
theorem laws_toFnS.mono_l : ∀ k, (∀ y0 y1 y2, LeO (laws_toFnS.l0 k y0 y1 y2) (laws_toFnS.l0 (k + 1) y0 y1 y2))
 | 0 => fun _ _ _ r h => by simp [laws_toFnS.l0] at h
 | k + 1 => by
  have ih0 := laws_toFnS.mono_l k
  ·
   intro y0 y1 y2
   unfold laws_toFnS.l0
   with_reducible repeat' first | exact ih0 _ _ _ | exact laws_toFn.mono _ _ _ _ _ _ | exact LeO.refl _ | exact LeO.none _ | refine LeO.ite ?_ ?_ | refine LeO.bind ?_ (fun _ => ?_)
theorem laws_toFnS.mono : ∀ a0 k, LeO (laws_toFnS.f k a0) (laws_toFnS.f (k + 1) a0) := by
 intro a0 k; have ih0 := laws_toFnS.mono_l k
 unfold laws_toFnS.f
 with_reducible repeat' first | exact ih0 _ _ _ | exact laws_toFn.mono _ _ _ _ _ _ | exact LeO.refl _ | exact LeO.none _ | refine LeO.ite ?_ ?_ | refine LeO.bind ?_ (fun _ => ?_)
set_option maxHeartbeats 8000000 in
set_option maxRecDepth 100000 in
theorem laws_toFnS.calls (k : Nat) (A0 : Option Addr) (c0 : Nat) (l0 : List (S84)) (r : List (S56)) (w : World) (hr0 : Kd.C k84 w A0 l0.length l0) (hc0 : l0.length ≤ c0) (h : laws_toFnS.f k l0 = some r) :
  Calls Tryz.prog 35 #[.slice A0 l0.length c0] w fun e w' => ∃ v0_ : Value, e = .returned (v0_) ∧ Kd.S k56 56 w' w.heap.size (fun _ => True) v0_ r ∧ Below w.heap.size w w' := by
 have hu84 := Tryz.underlying84; have hu56 := Tryz.underlying56; have HR0 := As.mk hr0; have HC0 := As.mk hc0; clear hr0 hc0; have HB := As.mk (Below.refl w.heap.size w); have H : (if 0 ≤ (l0.length : Int) then (if ((l0.length : Int) : Int).toNat ≤ 4398046511104 then (laws_toFnS.l0 k l0 (List.replicate ((l0.length : Int) : Int).toNat z56) 0) else (none)) else (none)) = some r := h; clear h
 by_cases c2 : 0 ≤ (l0.length : Int)
 rotate_left; · rw [if_neg c2] at H; exact absurd H (by simp)

 rw [if_pos c2] at H; have c2b0 := eq_true c2; have c2b1 := decide_eq_true c2; clear c2; replace H := ie H; obtain ⟨c3b0, c3b1, H⟩ := H
 obtain ⟨y153, hy153⟩ : ∃ y_ : List (S56), y_ = (List.replicate ((l0.length : Int) : Int).toNat z56) := ⟨_, rfl⟩
 replace H : (laws_toFnS.l0 k l0 y153 0) = some r := by first | (rw [hy153]; with_reducible exact H) | (have H2_ := (Option.bind_some _ _).symm.trans H; rw [hy153]; with_reducible exact H2_) | (have H2_ := (Option.bind_some _ _).symm.trans H; with_reducible exact H2_) | with_reducible exact H | (rw [hy153]; exact H) | exact H
 have Ny153 := As.mk hy153; clear hy153; have H' := As.mk H; clear H; go_enter Tryz.func35, Tryz.ntmps35
 go_wp2_with (first | ((with_reducible refine gate_dst (N := 7) rfl ?_); refine Kd.S_make k56 _ 56 rfl (N := 7) rfl 30 _ _ rfl (l0.length : Int) rfl rfl Tryz.underlying30 (.agg #[(.string ⟨#[]⟩), (.slice none 0 0), (.int .i64 0), (.int .i64 0), (.int .i64 0)]) 64 info56 rfl (by decide) (by omega) z56 (ok := fun _ => True) (okp := fun _ => True) (k56_mkM _ _ _ z56 (Kd.R_nil _ _ _ _ _)) (fun _ hk => hk) trivial (of_decide_eq_true (by first | (with_reducible assumption) | assumption)) (Nat.le_trans (Nat.mul_le_mul_right _ (of_decide_eq_true (by first | (with_reducible assumption) | assumption) : (l0.length : Int).toNat ≤ 4398046511104)) (by omega)) (Below.refl _ _) (Nat.le_refl _) ?_; intro v154 w4 ho5 hb hg_ hnew_; clear hg_ hnew_; (first | rw [← Ny153.out] at ho5 | (simp only [Int.reduceToNat] at ho5; rw [← Ny153.out] at ho5)); have HO155 := As.mk (Kd.S_lower ho5 (below_size (be w))); replace HB := bs w hb; clear hb ho5))
 go_loopg [4] k (fun kq v4 w' => ∃ (x3_1 : List (S56)) (x4_1 : Int), v4 = .int .i64 x4_1 ∧ As (laws_toFnS.l0 kq l0 x3_1 x4_1 = some r) ∧ As (kq ≤ k) ∧ As (Kd.S k56 56 w' w.heap.size (fun _ => True) v154 x3_1) ∧ As (Below w.heap.size w w'))
 case atStart => exact ⟨(y153), (0), (by first | rfl | (simp; done) | (simp [*]; done)), H', ⟨Nat.le_refl _⟩, ⟨by (with_reducible repeat (first | apply Kd.S_alloc | apply Kd.S_drewN | apply Kd.S_drew)); exact HO155.out⟩, ⟨be w⟩⟩
 case round =>
  clear H'; (try clear c2); (try clear c2b0); (try clear c2b1); (try clear c3); (try clear c3b0); (try clear c3b1); obtain ⟨x3_1, x4_1, rfl, HA, HK1, HO_3, HB⟩ := hrel
  cases gk with
  | zero => exact absurd HA.out (by simp [laws_toFnS.l0])
  | succ k1 =>
   have H := HA.out; clear HA
   simp only [laws_toFnS.l0] at H
   by_cases c6 : x4_1 < (l0.length : Int)
   rotate_left
   ·
    rw [if_neg c6] at H; have c6b0 := decide_eq_false c6; clear c6; obtain rfl := sj H
    go_wp2
    go_ret
    exact ⟨_, ez, by (with_reducible repeat (first | apply Kd.S_alloc | apply Kd.S_drewN | apply Kd.S_drew)); exact HO_3.out, be w⟩
   rw [if_pos c6] at H; have c6b0 := decide_eq_true c6; clear c6; replace H := ia H; obtain ⟨c7b0, H⟩ := H; replace H := bo H; obtain ⟨⟨t157, t158, t161, t162, t163⟩, A8, H⟩ := H
   try dsimp only at H
   replace H := ia H; obtain ⟨c9b0, H⟩ := H
   obtain ⟨y164, hy164⟩ : ∃ y_ : List (S56), y_ = (x3_1.set (x4_1 : Int).toNat (⟨t157, t158, t161, t162, t163⟩ : S56)) := ⟨_, rfl⟩
   replace H : (laws_toFnS.l0 k1 l0 y164 (wrap64 (x4_1 + 1))) = some r := by first | (rw [hy164]; with_reducible exact H) | (have H2_ := (Option.bind_some _ _).symm.trans H; rw [hy164]; with_reducible exact H2_) | (have H2_ := (Option.bind_some _ _).symm.trans H; with_reducible exact H2_) | with_reducible exact H | (rw [hy164]; exact H) | exact H
   have Ny164 := As.mk hy164; clear hy164; have H' := As.mk H; clear H; obtain ⟨ad156, A156_1, c156_1, e156, p156, q156, x156a, x156b, x156c, x156d, x156e, HC156_1, HR156_1⟩ := bt_T84 HB.out HR0.out x4_1 od od; cases e156
   go_wp2_with (first | ((with_reducible refine gate_callee (f := 67) rfl ?_); refine goL (some 20) Tryz.func67 #[.agg #[.string ((rd_T84 l0 x4_1).f0), .slice A156_1 ((rd_T84 l0 x4_1).f1).length c156_1, .int .i64 ((rd_T84 l0 x4_1).f2), .int .i64 ((rd_T84 l0 x4_1).f3), .int .i64 ((rd_T84 l0 x4_1).f4)]] ?_; (with_reducible refine (laws_toFn.calls k1 ((rd_T84 l0 x4_1).f0) _ _ ((rd_T84 l0 x4_1).f1) ((rd_T84 l0 x4_1).f2) ((rd_T84 l0 x4_1).f3) ((rd_T84 l0 x4_1).f4) t157 t158 t161 t162 t163 _ (cb HR156_1) HC156_1.out A8.out).mono ?_); rintro e w11 ⟨v159, rfl, ho0, hb⟩; refine ⟨_, rfl, ?_⟩; replace HO_3 := As.mk (Kd.S_elder' (by (with_reducible repeat (first | apply Kd.S_alloc | apply Kd.S_drewN | apply Kd.S_drew)); exact HO_3.out) (Kd.R_base ho0) hb); have HO160 := As.mk (Kd.R_lower ho0 (below_size (be w))); replace HB := bs w hb; (try clear hb); (try clear hk); (try clear ho0); have p10 : 0 ≤ (x4_1 : Int) := od; have q10 : (x4_1 : Int) < ((x3_1.length : Int) : Int) := od; obtain ⟨go10, co10, eo10, gb10, gl10, cl10, HG10⟩ := Kd.S_form HO_3.out (by omega); (first | cases eo10 | (injection eo10 with ea_ en_ ec_; (first | subst ea_ | (injection ea_ with ea_; subst ea_)); subst ec_; clear en_)); have GB10 := As.mk gb10; have GG10 := As.mk HG10; clear gb10 gl10 HG10; obtain ⟨_, ce10, hcl10, hM10, hcc10, hfr10, _, _⟩ := Kd.S_elem HO_3.out z56 (x4_1 : Int) p10 q10; obtain ⟨ve10_1, rfl, ge10_1⟩ := k56_openM hM10; have x10a : w11.cell? ⟨go10, (x4_1 : Int).toNat * 5, none⟩ = some (.string ((rd_T56 x3_1 x4_1).f0)) := hcc10 0 _ rfl; have x10b : w11.cell? ⟨go10, (x4_1 : Int).toNat * 5 + 1, none⟩ = some (ve10_1) := hcc10 1 _ rfl; have x10c : w11.cell? ⟨go10, (x4_1 : Int).toNat * 5 + 2, none⟩ = some (.int .i64 ((rd_T56 x3_1 x4_1).f2)) := hcc10 2 _ rfl; have x10d : w11.cell? ⟨go10, (x4_1 : Int).toNat * 5 + 3, none⟩ = some (.int .i64 ((rd_T56 x3_1 x4_1).f3)) := hcc10 3 _ rfl; have x10e : w11.cell? ⟨go10, (x4_1 : Int).toNat * 5 + 4, none⟩ = some (.int .i64 ((rd_T56 x3_1 x4_1).f4)) := hcc10 4 _ rfl; have f10a : w11.frozen? ⟨go10, (x4_1 : Int).toNat * 5, none⟩ = false := hfr10 0; have f10b : w11.frozen? ⟨go10, (x4_1 : Int).toNat * 5 + 1, none⟩ = false := hfr10 1; have f10c : w11.frozen? ⟨go10, (x4_1 : Int).toNat * 5 + 2, none⟩ = false := hfr10 2; have f10d : w11.frozen? ⟨go10, (x4_1 : Int).toNat * 5 + 3, none⟩ = false := hfr10 3; have f10e : w11.frozen? ⟨go10, (x4_1 : Int).toNat * 5 + 4, none⟩ = false := hfr10 4; clear hcl10 hcc10 hfr10 hM10; replace p10 := eq_true p10; replace q10 := eq_true q10; have n_ := As.mk (Kd.S_mono (ok' := (fun k_ => some k_ ≠ (v159 : Value).ownBlock)) HO_3.out (fun k_ hk => hk.2)); clear HO_3; have HO_3 := n_; clear n_; have HX12 := As.mk (show Kd.S k56 56 w11 w.heap.size (fun k_ => ((fun _ => True)) k_ ∧ ¬ ((fun k_ => some k_ = (v159 : Value).ownBlock)) k_) (.slice (some ⟨go10, 0, none⟩) x3_1.length co10) x3_1 from (by (with_reducible repeat (first | apply Kd.S_alloc | apply Kd.S_drewN | apply Kd.S_drew)); exact Kd.S_mono HO_3.out (fun k_ hk => ⟨trivial, fun e_ => hk e_⟩))); obtain ⟨oki12, ce12, hcl12, hM12, hcc12, hfr12, hoki12, hH12⟩ := Kd.S_elem HX12.out z56 (x4_1 : Int) (of_decide_eq_true (by first | (with_reducible assumption) | assumption)) (by have h_ : (x4_1 : Int) < ((x3_1.length : Int) : Int) := od; first | exact h_ | (have e_ := (Kd.S_reads' HO_3.out).1; omega) | simpa using h_); obtain ⟨ve12_1, rfl, ge12_1⟩ := k56_openM hM12; have HP12 := Kd.S_seg hH12 (of_decide_eq_true (by first | (with_reducible assumption) | assumption)) (by have h_ : (x4_1 : Int) < ((x3_1.length : Int) : Int) := od; first | exact h_ | (have e_ := (Kd.S_reads' HO_3.out).1; omega) | simpa using h_) (seg := [.string t157, v159, .int .i64 t161, .int .i64 t162, .int .i64 t163]) (j := 0) (show 5 ≤ 5 from by decide) (x' := (⟨t157, t158, t161, t162, t163⟩ : S56)) (k56_mkM _ _ _ (⟨t157, t158, t161, t162, t163⟩ : S56) (Kd.R_mono (Kd.R_tight rfl (Kd.R_mono (ok' := fun k_ => ((fun _ => True)) k_ ∧ k_ ≠ go10) (Kd.R_apart' (HO160.out) (Kd.S_typed HO_3.out) (by decide)) (fun k_ hk => ⟨trivial, fun e_ => (hk.2) (by rw [e_]; rfl)⟩))) (fun _ h_ => Or.inr (h_)))) (fun _ hk => hk) (fun k_ hk_ => ((Kd.R_mono (ok' := fun k_ => ((fun _ => True)) k_ ∧ k_ ≠ go10) (Kd.R_apart' (HO160.out) (Kd.S_typed HO_3.out) (by decide)) (fun k_ hk => ⟨trivial, fun e_ => (hk.2) (by rw [e_]; rfl)⟩))).1 k_ hk_.symm); have x12a := hcc12 0 _ rfl; (try simp only [show (k56).sz = 5 from rfl, Nat.mul_one, Nat.add_zero] at x12a); have f12a := hfr12 0; (try simp only [show (k56).sz = 5 from rfl, Nat.mul_one, Nat.add_zero] at f12a); have x12b := hcc12 1 _ rfl; (try simp only [show (k56).sz = 5 from rfl, Nat.mul_one, Nat.add_zero] at x12b); have f12b := hfr12 1; (try simp only [show (k56).sz = 5 from rfl, Nat.mul_one, Nat.add_zero] at f12b); have x12c := hcc12 2 _ rfl; (try simp only [show (k56).sz = 5 from rfl, Nat.mul_one, Nat.add_zero] at x12c); have f12c := hfr12 2; (try simp only [show (k56).sz = 5 from rfl, Nat.mul_one, Nat.add_zero] at f12c); have x12d := hcc12 3 _ rfl; (try simp only [show (k56).sz = 5 from rfl, Nat.mul_one, Nat.add_zero] at x12d); have f12d := hfr12 3; (try simp only [show (k56).sz = 5 from rfl, Nat.mul_one, Nat.add_zero] at f12d); have x12e := hcc12 4 _ rfl; (try simp only [show (k56).sz = 5 from rfl, Nat.mul_one, Nat.add_zero] at x12e); have f12e := hfr12 4; (try simp only [show (k56).sz = 5 from rfl, Nat.mul_one, Nat.add_zero] at f12e); clear hcl12 hcc12 hfr12 hM12 hoki12 hH12) | ((with_reducible refine gate_store (t := 56) (p := 21) rfl ?_); refine store_event (t := 56) (p := 21) (v := ?vo_w13) (w1 := (((((w11.setCell ⟨go10, (x4_1 : Int).toNat * 5, none⟩ (.string t157)).setCell ⟨go10, (x4_1 : Int).toNat * 5 + 1, none⟩ (v159)).setCell ⟨go10, (x4_1 : Int).toNat * 5 + 2, none⟩ (.int .i64 t161)).setCell ⟨go10, (x4_1 : Int).toNat * 5 + 3, none⟩ (.int .i64 t162)).setCell ⟨go10, (x4_1 : Int).toNat * 5 + 4, none⟩ (.int .i64 t163))) ?hg ?ho ?hn ?hr ?_; (case ho => rfl); (case hg => rfl); (case hn => rfl); (case hr => (try (obtain ⟨_, _, e_⟩ := Kd.R_slice HO160.out; subst e_)); first | (go_simp; done) | (go_simp; rfl)); intro w13 hw; have hg : w11.grownBy w13 (some go10) := (by rw [hw]; exact HP12.2); have hp_ : Kd.S k56 56 w13 w.heap.size (fun _ => True) (.slice (some ⟨go10, 0, none⟩) x3_1.length co10) y164 := (by rw [hw, Ny164.out]; exact HP12.1); clear HP12; replace HO_3 := As.mk (hp_); replace HB := As.mk ((by rw [hw]; exact below_set (below_set (below_set (below_set (below_set (HB.out) GB10.out) GB10.out) GB10.out) GB10.out) GB10.out : Below w.heap.size w w13)); clear HO160; clear hg hw hp_))
   go_roundg k1
   case measure => have := HK1.out; omega
   case rel => exact ⟨(y164), (wrap64 (x4_1 + 1)), (by first | rfl | (simp; done) | (simp [*]; done)), H', ⟨by have := HK1.out; omega⟩, ⟨by (with_reducible repeat (first | apply Kd.S_alloc | apply Kd.S_drewN | apply Kd.S_drew)); exact HO_3.out⟩, ⟨be w⟩⟩
/-! ### laws_toProgram: function 11 -/
def laws_toProgram.f (k : Nat) (l0_0 : List (S80)) (l0_1 : List (S84)) : Option ((List (S62)) × (List (S56))) := (laws_toNodeS.f k l0_0).bind fun t168 => ((laws_toFnS.f k l0_1).bind fun t171 => (some (t168, t171)))
theorem laws_toProgram.mono : ∀ a0 a1 k, LeO (laws_toProgram.f k a0 a1) (laws_toProgram.f (k + 1) a0 a1) := by
 intro a0 a1 k
 unfold laws_toProgram.f
 with_reducible repeat' first | exact laws_toFnS.mono _ _ | exact laws_toNodeS.mono _ _ | exact LeO.refl _ | exact LeO.none _ | refine LeO.ite ?_ ?_ | refine LeO.bind ?_ (fun _ => ?_)
set_option maxHeartbeats 8000000 in
set_option maxRecDepth 100000 in
theorem laws_toProgram.calls (k : Nat) (A0_0 : Option Addr) (c0_0 : Nat) (l0_0 : List (S80)) (A0_1 : Option Addr) (c0_1 : Nat) (l0_1 : List (S84)) (r1 : List (S62)) (r2 : List (S56)) (w : World) (hr0_0 : Kd.C k80 w A0_0 l0_0.length l0_0) (hc0_0 : l0_0.length ≤ c0_0) (hr0_1 : Kd.C k84 w A0_1 l0_1.length l0_1) (hc0_1 : l0_1.length ≤ c0_1) (h : laws_toProgram.f k l0_0 l0_1 = some (r1, r2)) :
  Calls Tryz.prog 11 #[.agg #[.slice A0_0 l0_0.length c0_0, .slice A0_1 l0_1.length c0_1]] w fun e w' => ∃ v0_ v1_ : Value, e = .returned (.agg #[v0_, v1_]) ∧ Kd.S k62 62 w' w.heap.size (fun _ => True) v0_ r1 ∧ Kd.S k56 56 w' w.heap.size (fun _ => True) v1_ r2 ∧ Below w.heap.size w w' := by
 have hu25 := Tryz.underlying25; have hu32 := Tryz.underlying32; have HR0_0 := As.mk hr0_0; have HC0_0 := As.mk hc0_0; clear hr0_0 hc0_0; have HR0_1 := As.mk hr0_1; have HC0_1 := As.mk hc0_1; clear hr0_1 hc0_1; have HB := As.mk (Below.refl w.heap.size w); have H : ((laws_toNodeS.f k l0_0).bind fun t168 => ((laws_toFnS.f k l0_1).bind fun t171 => (some (t168, t171)))) = some (r1, r2) := h; clear h; replace H := bo H; obtain ⟨t168, A2, H⟩ := H; replace H := bo H; obtain ⟨t171, A3, H⟩ := H
 simp only [Option.some.injEq, Prod.mk.injEq] at H
 obtain ⟨rfl, rfl⟩ := H; go_enter Tryz.func11, Tryz.ntmps11
 go_wp2_with (first | ((with_reducible refine gate_dst (N := 1) rfl ?_); refine bxe 1 #[.slice A0_0 l0_0.length c0_0, .slice A0_1 l0_1.length c0_1] 25 ?_; intro gb165 hg w4 BK165 hb; have GW165 := As.mk (gs w hg); replace HB := bs w hb; clear hb hg) | ((with_reducible refine gate_dst (N := 2) rfl ?_); refine bxe 2 #[.slice none 0 0, .slice none 0 0] 32 ?_; intro gb166 hg w5 BK166 hb; have GW166 := As.mk (gs w hg); replace HB := bs w hb; have NB165_166 := As.mk (nl hg (bx BK165.out)); have NB166_165 := As.mk (ng hg (bx BK165.out)); replace BK165 := bb BK165 hb; clear hb hg) | ((with_reducible refine gate_dst (N := 3) rfl ?_); refine bxe 3 #[.slice none 0 0, .slice none 0 0] 32 ?_; intro gb167 hg w6 BK167 hb; have GW167 := As.mk (gs w hg); replace HB := bs w hb; have NB165_167 := As.mk (nl hg (bx BK165.out)); have NB167_165 := As.mk (ng hg (bx BK165.out)); replace BK165 := bb BK165 hb; have NB166_167 := As.mk (nl hg (bx BK166.out)); have NB167_166 := As.mk (ng hg (bx BK166.out)); replace BK166 := bb BK166 hb; clear hb hg; have hnb7 := NB165_166.out; have hnc7 := NB166_165.out; have hnb8 := NB165_167.out; have hnc8 := NB167_165.out; obtain ⟨y9a, y9b, v9a, v9b⟩ := cl2 BK165.out) | ((with_reducible refine gate_callee (f := 34) rfl ?_); refine goL (some 6) Tryz.func34 #[.slice A0_0 l0_0.length c0_0] ?_; (with_reducible refine (laws_toNodeS.calls k _ _ l0_0 t168 _ (cb HR0_0) HC0_0.out A2.out).mono ?_); rintro e w10 ⟨v169, rfl, ho0, hb⟩; refine ⟨_, rfl, ?_⟩; have HO170 := As.mk (Kd.S_lower ho0 (below_size (be w))); replace BK165 := bb BK165 hb; replace BK166 := bb BK166 hb; replace BK167 := bb BK167 hb; replace HB := bs w hb; (try clear hb); (try clear hk); (try clear ho0); obtain ⟨Ao11, co11, eo11⟩ := Kd.S_slice HO170.out; subst eo11; have hnb12 := NB167_166.out; have hnc12 := NB166_167.out; obtain ⟨y13a, y13b, v13a, v13b⟩ := cl2 BK167.out; obtain ⟨y14a, y14b, v14a, v14b⟩ := cl2 BK165.out) | ((with_reducible refine gate_callee (f := 35) rfl ?_); refine goL (some 10) Tryz.func35 #[.slice A0_1 l0_1.length c0_1] ?_; (with_reducible refine (laws_toFnS.calls k _ _ l0_1 t171 _ (cb HR0_1) HC0_1.out A3.out).mono ?_); rintro e w15 ⟨v172, rfl, ho0, hb⟩; refine ⟨_, rfl, ?_⟩; replace HO170 := As.mk (Kd.S_below (by (with_reducible repeat (first | apply Kd.S_alloc | apply Kd.S_drewN | apply Kd.S_drew)); exact (Kd.S_mono (Kd.S_far (p := ⟨gb167, 0, none⟩) (Kd.S_types HO170.out BK167.out (by decide)) (fun _ hk => hk.2) (.slice Ao11 t168.length co11)) (fun _ h_ => h_.1))) hb); have HO173 := As.mk (Kd.S_lower ho0 (below_size (be w))); replace BK165 := As.mk (blk_below (g := gb165) (o := .cells #[.slice A0_0 l0_0.length c0_0, .slice A0_1 l0_1.length c0_1] 25 (0, 0)) (by refine pl ?_; refine blk_far ?_ NB165_167.out _; exact bx BK165.out) hb); replace BK166 := As.mk (blk_below (g := gb166) (o := .cells #[.slice none 0 0, .slice none 0 0] 32 (0, 0)) (by refine pl ?_; refine blk_far ?_ NB166_167.out _; exact bx BK166.out) hb); replace BK167 := As.mk (blk_below (g := gb167) (o := .cells #[.slice Ao11 t168.length co11, .slice none 0 0] 32 (0, 0)) (by refine pl ?_; refine blk_put (cs := #[.slice none 0 0, .slice none 0 0]) ?_ 0 _ rfl; exact bx BK167.out) hb); replace HB := bs w hb; (try clear hb); (try clear hk); (try clear ho0); obtain ⟨Ao16, co16, eo16⟩ := Kd.S_slice HO173.out; subst eo16; obtain ⟨y17a, y17b, v17a, v17b⟩ := cl2 BK167.out; obtain ⟨y18a, y18b, v18a, v18b⟩ := cl2 BK166.out))
 refine bodyPost_ret (results_cell_row rfl _ _ gb166 32 #[.slice Ao11 t168.length co11, .slice Ao16 t171.length co16] (0, 0) _ rfl (by refine pl ?_; refine blk_put (cs := #[.slice Ao11 t168.length co11, .slice none 0 0]) ?_ 1 _ rfl; refine pl ?_; refine blk_put (cs := #[.slice none 0 0, .slice none 0 0]) ?_ 0 _ rfl; refine pl ?_; refine blk_far ?_ NB166_167.out _; exact bx BK166.out) Tryz.underlying32 rfl (by kernel_rfl)) rfl ?_
 exact ⟨_, _, ez, by (with_reducible repeat (first | apply Kd.S_alloc | apply Kd.S_drewN | apply Kd.S_drew)); exact Kd.S_mono (Kd.S_far (p := ⟨gb166, 1, none⟩) (Kd.S_far (p := ⟨gb166, 0, none⟩) (Kd.S_far (p := ⟨gb167, 1, none⟩) (Kd.S_types (Kd.S_types HO170.out BK167.out (by decide)) BK166.out (by decide)) (fun _ hk => hk.1.2) (.slice Ao16 t171.length co16)) (fun _ hk => hk.2) (.slice Ao11 t168.length co11)) (fun _ hk => hk.2) (.slice Ao16 t171.length co16)) (fun _ hk => trivial), by (with_reducible repeat (first | apply Kd.S_alloc | apply Kd.S_drewN | apply Kd.S_drew)); exact Kd.S_mono (Kd.S_far (p := ⟨gb166, 1, none⟩) (Kd.S_far (p := ⟨gb166, 0, none⟩) (Kd.S_far (p := ⟨gb167, 1, none⟩) (Kd.S_types (Kd.S_types HO173.out BK167.out (by decide)) BK166.out (by decide)) (fun _ hk => hk.1.2) (.slice Ao16 t171.length co16)) (fun _ hk => hk.2) (.slice Ao11 t168.length co11)) (fun _ hk => hk.2) (.slice Ao16 t171.length co16)) (fun _ hk => trivial), be w⟩

/-! ### laws_eqIntS: function 26 -/
def laws_eqIntS.l0 : Nat → List Int → List Int → Int → Option (Bool)
 | 0, _, _, _ => none
 | k + 1, x0, x1, x5 => if x5 < (x0.length : Int) then (if 0 ≤ x5 then (if x5 < (x1.length : Int) then (if (rd x0 x5) = (rd x1 x5) then (laws_eqIntS.l0 k x0 x1 (wrap64 (x5 + 1))) else (some false)) else (none)) else (none)) else (some true)
def laws_eqIntS.f (k : Nat) (l0 : List Int) (l1 : List Int) : Option (Bool) := if (l0.length : Int) = (l1.length : Int) then (laws_eqIntS.l0 k l0 l1 0) else (some false)
theorem laws_eqIntS.mono_l : ∀ k, (∀ y0 y1 y2, LeO (laws_eqIntS.l0 k y0 y1 y2) (laws_eqIntS.l0 (k + 1) y0 y1 y2))
 | 0 => fun _ _ _ r h => by simp [laws_eqIntS.l0] at h
 | k + 1 => by
  have ih0 := laws_eqIntS.mono_l k
  ·
   intro y0 y1 y2
   unfold laws_eqIntS.l0
   with_reducible repeat' first | exact ih0 _ _ _ | exact LeO.refl _ | exact LeO.none _ | refine LeO.ite ?_ ?_ | refine LeO.bind ?_ (fun _ => ?_)
theorem laws_eqIntS.mono : ∀ a0 a1 k, LeO (laws_eqIntS.f k a0 a1) (laws_eqIntS.f (k + 1) a0 a1) := by
 intro a0 a1 k; have ih0 := laws_eqIntS.mono_l k
 unfold laws_eqIntS.f
 with_reducible repeat' first | exact ih0 _ _ _ | exact LeO.refl _ | exact LeO.none _ | refine LeO.ite ?_ ?_ | refine LeO.bind ?_ (fun _ => ?_)
set_option maxHeartbeats 8000000 in
set_option maxRecDepth 100000 in
theorem laws_eqIntS.calls (k : Nat) (A0 : Option Addr) (c0 : Nat) (l0 : List Int) (A1 : Option Addr) (c1 : Nat) (l1 : List Int) (r : Bool) (w : World) (hr0 : Kd.C (Kd.int .i64) w A0 l0.length l0) (hc0 : l0.length ≤ c0) (hr1 : Kd.C (Kd.int .i64) w A1 l1.length l1) (hc1 : l1.length ≤ c1) (h : laws_eqIntS.f k l0 l1 = some r) :
  Calls Tryz.prog 26 #[.slice A0 l0.length c0, .slice A1 l1.length c1] w fun e w' => e = .returned (.bool r) ∧ Drawn0 w w' := by
 have HR0 := As.mk hr0; have HC0 := As.mk hc0; clear hr0 hc0; have HR1 := As.mk hr1; have HC1 := As.mk hc1; clear hr1 hc1; have H : (if (l0.length : Int) = (l1.length : Int) then (laws_eqIntS.l0 k l0 l1 0) else (some false)) = some r := h; clear h
 by_cases c3 : (l0.length : Int) = (l1.length : Int)
 rotate_left
 ·
  rw [if_neg c3] at H; have c3b0 : ((l0.length : Int) == (l1.length : Int)) = false := beq_eq_false_iff_ne.mpr c3; have c3b1 : ((l0.length : Int) != (l1.length : Int)) = true := bne_iff_ne.mpr c3
  have c3b2 : (l0.length == l1.length) = false := by first | simpa using c3 | (simp at c3 ⊢; omega)
  obtain rfl := sj H; go_enter Tryz.func26, Tryz.ntmps26
  go_wp2
  go_ret
  exact dw

 rw [if_pos c3] at H; have c3b0 : ((l0.length : Int) == (l1.length : Int)) = true := beq_iff_eq.mpr c3; have c3b1 : ((l0.length : Int) != (l1.length : Int)) = false := bne_eq_false_iff_eq.mpr c3
 have c3b2 : (l0.length == l1.length) = true := by first | simpa using c3 | (simp at c3 ⊢; omega)
 clear c3; have H' := As.mk H; clear H; go_enter Tryz.func26, Tryz.ntmps26
 go_wp2
 go_loopg [5] k (fun kq v5 w' => ∃ (x5_1 : Int), v5 = .int .i64 x5_1 ∧ As (laws_eqIntS.l0 kq l0 l1 x5_1 = some r) ∧ As (kq ≤ k) ∧ Drawn0 w w')
 case atStart => exact ⟨(0), (by first | rfl | (simp; done) | (simp [*]; done)), H', ⟨Nat.le_refl _⟩, by repeat (first | exact Drawn0.refl _ | apply Drawn0.step)⟩
 case round =>
  clear H'; (try clear c3); (try clear c3b0); (try clear c3b1); (try clear c3b2); obtain ⟨x5_1, rfl, HA, HK1, ⟨m1, rfl⟩⟩ := hrel
  cases gk with
  | zero => exact absurd HA.out (by simp [laws_eqIntS.l0])
  | succ k1 =>
   have H := HA.out; clear HA
   simp only [laws_eqIntS.l0] at H
   by_cases c4 : x5_1 < (l0.length : Int)
   rotate_left
   ·
    rw [if_neg c4] at H; have c4b0 := decide_eq_false c4; clear c4; obtain rfl := sj H
    go_wp2
    go_ret
    exact dw
   rw [if_pos c4] at H; have c4b0 := decide_eq_true c4; clear c4; replace H := ia H; obtain ⟨c5b0, H⟩ := H; replace H := ia H; obtain ⟨c6b0, H⟩ := H
   by_cases c7 : (rd l0 x5_1) = (rd l1 x5_1)
   rotate_left
   ·
    rw [if_neg c7] at H; have c7b0 : ((rd l0 x5_1) == (rd l1 x5_1)) = false := beq_eq_false_iff_ne.mpr c7; have c7b1 : ((rd l0 x5_1) != (rd l1 x5_1)) = true := bne_iff_ne.mpr c7; obtain rfl := sj H; have p174 : 0 ≤ (x5_1 : Int) := od; have q174 : x5_1 < (l0.length : Int) := od; obtain ⟨ad174, e174, x174a⟩ := Kd.at_int HR0.out x5_1 p174 q174; cases e174; replace p174 := eq_true p174; replace q174 := eq_true q174; have p175 : 0 ≤ (x5_1 : Int) := od; have q175 : x5_1 < (l1.length : Int) := od; obtain ⟨ad175, e175, x175a⟩ := Kd.at_int HR1.out x5_1 p175 q175; cases e175; replace p175 := eq_true p175; replace q175 := eq_true q175
    go_wp2
    (try go_quiet (fail))
    try go_wp2
    go_ret
    exact dw
   rw [if_pos c7] at H; have c7b0 : ((rd l0 x5_1) == (rd l1 x5_1)) = true := beq_iff_eq.mpr c7; have c7b1 : ((rd l0 x5_1) != (rd l1 x5_1)) = false := bne_eq_false_iff_eq.mpr c7; clear c7; have H' := As.mk H; clear H; have p174 : 0 ≤ (x5_1 : Int) := od; have q174 : x5_1 < (l0.length : Int) := od; obtain ⟨ad174, e174, x174a⟩ := Kd.at_int HR0.out x5_1 p174 q174; cases e174; replace p174 := eq_true p174; replace q174 := eq_true q174; have p175 : 0 ≤ (x5_1 : Int) := od; have q175 : x5_1 < (l1.length : Int) := od; obtain ⟨ad175, e175, x175a⟩ := Kd.at_int HR1.out x5_1 p175 q175; cases e175; replace p175 := eq_true p175; replace q175 := eq_true q175
   go_wp2
   (try go_quiet (fail))
   try go_wp2
   go_roundg k1
   case measure => have := HK1.out; omega
   case rel => exact ⟨(wrap64 (x5_1 + 1)), (by first | rfl | (simp; done) | (simp [*]; done)), H', ⟨by have := HK1.out; omega⟩, by repeat (first | exact Drawn0.refl _ | apply Drawn0.step)⟩
/-! ### laws_eqNode: function 68 -/
def laws_eqNode.f (k : Nat) (a0_0 : Int) (a0_1 : Int) (a0_2 : ByteArray) (l0_3 : List Int) (a1_0 : Int) (a1_1 : Int) (a1_2 : ByteArray) (l1_3 : List Int) : Option (Bool) := if a0_0 = a1_0 then (if a0_1 = a1_1 then (if a0_2.toList = a1_2.toList then ((laws_eqIntS.f k l0_3 l1_3).bind fun t178 => (if t178 = true then (some true) else (some false))) else (some false)) else (some false)) else (some false)
theorem laws_eqNode.mono : ∀ a0 a1 a2 a3 a4 a5 a6 a7 k, LeO (laws_eqNode.f k a0 a1 a2 a3 a4 a5 a6 a7) (laws_eqNode.f (k + 1) a0 a1 a2 a3 a4 a5 a6 a7) := by
 intro a0 a1 a2 a3 a4 a5 a6 a7 k
 unfold laws_eqNode.f
 with_reducible repeat' first | exact laws_eqIntS.mono _ _ _ | exact LeO.refl _ | exact LeO.none _ | refine LeO.ite ?_ ?_ | refine LeO.bind ?_ (fun _ => ?_)
set_option maxHeartbeats 8000000 in
set_option maxRecDepth 100000 in
theorem laws_eqNode.calls (k : Nat) (a0_0 : Int) (a0_1 : Int) (a0_2 : ByteArray) (A0_3 : Option Addr) (c0_3 : Nat) (l0_3 : List Int) (a1_0 : Int) (a1_1 : Int) (a1_2 : ByteArray) (A1_3 : Option Addr) (c1_3 : Nat) (l1_3 : List Int) (r : Bool) (w : World) (hr0_3 : Kd.C (Kd.int .i64) w A0_3 l0_3.length l0_3) (hc0_3 : l0_3.length ≤ c0_3) (hr1_3 : Kd.C (Kd.int .i64) w A1_3 l1_3.length l1_3) (hc1_3 : l1_3.length ≤ c1_3) (h : laws_eqNode.f k a0_0 a0_1 a0_2 l0_3 a1_0 a1_1 a1_2 l1_3 = some r) :
  Calls Tryz.prog 68 #[.agg #[.int .i64 a0_0, .int .i64 a0_1, .string a0_2, .slice A0_3 l0_3.length c0_3], .agg #[.int .i64 a1_0, .int .i64 a1_1, .string a1_2, .slice A1_3 l1_3.length c1_3]] w fun e w' => e = .returned (.bool r) ∧ Below w.heap.size w w' := by
 have hu62 := Tryz.underlying62; have HR0_3 := As.mk hr0_3; have HC0_3 := As.mk hc0_3; clear hr0_3 hc0_3; have HR1_3 := As.mk hr1_3; have HC1_3 := As.mk hc1_3; clear hr1_3 hc1_3; have HB := As.mk (Below.refl w.heap.size w); have H : (if a0_0 = a1_0 then (if a0_1 = a1_1 then (if a0_2.toList = a1_2.toList then ((laws_eqIntS.f k l0_3 l1_3).bind fun t178 => (if t178 = true then (some true) else (some false))) else (some false)) else (some false)) else (some false)) = some r := h; clear h
 by_cases c3 : a0_0 = a1_0
 rotate_left
 ·
  rw [if_neg c3] at H; have c3b0 : (a0_0 == a1_0) = false := beq_eq_false_iff_ne.mpr c3; have c3b1 : (a0_0 != a1_0) = true := bne_iff_ne.mpr c3; obtain rfl := sj H; go_enter Tryz.func68, Tryz.ntmps68
  go_wp2_with (first | ((with_reducible refine gate_dst (N := 2) rfl ?_); refine bxe 2 #[.int .i64 a0_0, .int .i64 a0_1, .string a0_2, .slice A0_3 l0_3.length c0_3] 62 ?_; intro gb176 hg w28 BK176 hb; have GW176 := As.mk (gs w hg); replace HB := bs w hb; clear hb hg) | ((with_reducible refine gate_dst (N := 3) rfl ?_); refine bxe 3 #[.int .i64 a1_0, .int .i64 a1_1, .string a1_2, .slice A1_3 l1_3.length c1_3] 62 ?_; intro gb177 hg w29 BK177 hb; have GW177 := As.mk (gs w hg); replace HB := bs w hb; have NB176_177 := As.mk (nl hg (bx BK176.out)); have NB177_176 := As.mk (ng hg (bx BK176.out)); replace BK176 := bb BK176 hb; clear hb hg; have hnb30 := NB176_177.out; have hnc30 := NB177_176.out; obtain ⟨y31a, y31b, y31c, y31d, v31a, v31b, v31c, v31d⟩ := cl4 BK176.out; obtain ⟨y32a, y32b, y32c, y32d, v32a, v32b, v32c, v32d⟩ := cl4 BK177.out))
  go_ret
  exact ⟨ez, be w⟩

 rw [if_pos c3] at H; have c3b0 : (a0_0 == a1_0) = true := beq_iff_eq.mpr c3; have c3b1 : (a0_0 != a1_0) = false := bne_eq_false_iff_eq.mpr c3; clear c3
 by_cases c4 : a0_1 = a1_1
 rotate_left
 ·
  rw [if_neg c4] at H; have c4b0 : (a0_1 == a1_1) = false := beq_eq_false_iff_ne.mpr c4; have c4b1 : (a0_1 != a1_1) = true := bne_iff_ne.mpr c4; obtain rfl := sj H; go_enter Tryz.func68, Tryz.ntmps68
  go_wp2_with (first | ((with_reducible refine gate_dst (N := 2) rfl ?_); refine bxe 2 #[.int .i64 a0_0, .int .i64 a0_1, .string a0_2, .slice A0_3 l0_3.length c0_3] 62 ?_; intro gb176 hg w23 BK176 hb; have GW176 := As.mk (gs w hg); replace HB := bs w hb; clear hb hg) | ((with_reducible refine gate_dst (N := 3) rfl ?_); refine bxe 3 #[.int .i64 a1_0, .int .i64 a1_1, .string a1_2, .slice A1_3 l1_3.length c1_3] 62 ?_; intro gb177 hg w24 BK177 hb; have GW177 := As.mk (gs w hg); replace HB := bs w hb; have NB176_177 := As.mk (nl hg (bx BK176.out)); have NB177_176 := As.mk (ng hg (bx BK176.out)); replace BK176 := bb BK176 hb; clear hb hg; have hnb25 := NB176_177.out; have hnc25 := NB177_176.out; obtain ⟨y26a, y26b, y26c, y26d, v26a, v26b, v26c, v26d⟩ := cl4 BK176.out; obtain ⟨y27a, y27b, y27c, y27d, v27a, v27b, v27c, v27d⟩ := cl4 BK177.out))
  go_ret
  exact ⟨ez, be w⟩
 rw [if_pos c4] at H; have c4b0 : (a0_1 == a1_1) = true := beq_iff_eq.mpr c4; have c4b1 : (a0_1 != a1_1) = false := bne_eq_false_iff_eq.mpr c4; clear c4
 by_cases c5 : a0_2.toList = a1_2.toList
 rotate_left
 ·
  rw [if_neg c5] at H; have c5b0 : (a0_2.toList == a1_2.toList) = false := beq_eq_false_iff_ne.mpr c5; have c5b1 : (a0_2.toList != a1_2.toList) = true := bne_iff_ne.mpr c5; obtain rfl := sj H; go_enter Tryz.func68, Tryz.ntmps68
  go_wp2_with (first | ((with_reducible refine gate_dst (N := 2) rfl ?_); refine bxe 2 #[.int .i64 a0_0, .int .i64 a0_1, .string a0_2, .slice A0_3 l0_3.length c0_3] 62 ?_; intro gb176 hg w18 BK176 hb; have GW176 := As.mk (gs w hg); replace HB := bs w hb; clear hb hg) | ((with_reducible refine gate_dst (N := 3) rfl ?_); refine bxe 3 #[.int .i64 a1_0, .int .i64 a1_1, .string a1_2, .slice A1_3 l1_3.length c1_3] 62 ?_; intro gb177 hg w19 BK177 hb; have GW177 := As.mk (gs w hg); replace HB := bs w hb; have NB176_177 := As.mk (nl hg (bx BK176.out)); have NB177_176 := As.mk (ng hg (bx BK176.out)); replace BK176 := bb BK176 hb; clear hb hg; have hnb20 := NB176_177.out; have hnc20 := NB177_176.out; obtain ⟨y21a, y21b, y21c, y21d, v21a, v21b, v21c, v21d⟩ := cl4 BK176.out; obtain ⟨y22a, y22b, y22c, y22d, v22a, v22b, v22c, v22d⟩ := cl4 BK177.out))
  go_ret
  exact ⟨ez, be w⟩
 rw [if_pos c5] at H; have c5b0 : (a0_2.toList == a1_2.toList) = true := beq_iff_eq.mpr c5; have c5b1 : (a0_2.toList != a1_2.toList) = false := bne_eq_false_iff_eq.mpr c5; clear c5; replace H := bo H; obtain ⟨t178, A6, H⟩ := H
 by_cases c7 : t178 = true
 ·
  subst c7; rw [if_pos rfl] at H; obtain rfl := sj H; go_enter Tryz.func68, Tryz.ntmps68
  go_wp2_with (first | ((with_reducible refine gate_dst (N := 2) rfl ?_); refine bxe 2 #[.int .i64 a0_0, .int .i64 a0_1, .string a0_2, .slice A0_3 l0_3.length c0_3] 62 ?_; intro gb176 hg w8 BK176 hb; have GW176 := As.mk (gs w hg); replace HB := bs w hb; clear hb hg) | ((with_reducible refine gate_dst (N := 3) rfl ?_); refine bxe 3 #[.int .i64 a1_0, .int .i64 a1_1, .string a1_2, .slice A1_3 l1_3.length c1_3] 62 ?_; intro gb177 hg w9 BK177 hb; have GW177 := As.mk (gs w hg); replace HB := bs w hb; have NB176_177 := As.mk (nl hg (bx BK176.out)); have NB177_176 := As.mk (ng hg (bx BK176.out)); replace BK176 := bb BK176 hb; clear hb hg; have hnb10 := NB176_177.out; have hnc10 := NB177_176.out; obtain ⟨y11a, y11b, y11c, y11d, v11a, v11b, v11c, v11d⟩ := cl4 BK176.out; obtain ⟨y12a, y12b, y12c, y12d, v12a, v12b, v12c, v12d⟩ := cl4 BK177.out) | ((with_reducible refine gate_callee (f := 26) rfl ?_); refine goL (some 24) Tryz.func26 #[.slice A0_3 l0_3.length c0_3, .slice A1_3 l1_3.length c1_3] ?_; (with_reducible refine (laws_eqIntS.calls k _ _ l0_3 _ _ l1_3 true _ (cb HR0_3) HC0_3.out (cb HR1_3) HC1_3.out A6.out).mono ?_); rintro e w' ⟨rfl, ⟨nd, rfl⟩⟩; refine ⟨_, rfl, ?_⟩))
  go_ret
  exact ⟨ez, be w⟩
 replace c7 := Bool.eq_false_iff.mpr c7; subst c7; rw [if_neg ft] at H; obtain rfl := sj H; go_enter Tryz.func68, Tryz.ntmps68
 go_wp2_with (first | ((with_reducible refine gate_dst (N := 2) rfl ?_); refine bxe 2 #[.int .i64 a0_0, .int .i64 a0_1, .string a0_2, .slice A0_3 l0_3.length c0_3] 62 ?_; intro gb176 hg w13 BK176 hb; have GW176 := As.mk (gs w hg); replace HB := bs w hb; clear hb hg) | ((with_reducible refine gate_dst (N := 3) rfl ?_); refine bxe 3 #[.int .i64 a1_0, .int .i64 a1_1, .string a1_2, .slice A1_3 l1_3.length c1_3] 62 ?_; intro gb177 hg w14 BK177 hb; have GW177 := As.mk (gs w hg); replace HB := bs w hb; have NB176_177 := As.mk (nl hg (bx BK176.out)); have NB177_176 := As.mk (ng hg (bx BK176.out)); replace BK176 := bb BK176 hb; clear hb hg; have hnb15 := NB176_177.out; have hnc15 := NB177_176.out; obtain ⟨y16a, y16b, y16c, y16d, v16a, v16b, v16c, v16d⟩ := cl4 BK176.out; obtain ⟨y17a, y17b, y17c, y17d, v17a, v17b, v17c, v17d⟩ := cl4 BK177.out) | ((with_reducible refine gate_callee (f := 26) rfl ?_); refine goL (some 24) Tryz.func26 #[.slice A0_3 l0_3.length c0_3, .slice A1_3 l1_3.length c1_3] ?_; (with_reducible refine (laws_eqIntS.calls k _ _ l0_3 _ _ l1_3 false _ (cb HR0_3) HC0_3.out (cb HR1_3) HC1_3.out A6.out).mono ?_); rintro e w' ⟨rfl, ⟨nd, rfl⟩⟩; refine ⟨_, rfl, ?_⟩))
 go_ret
 exact ⟨ez, be w⟩
/-! ### laws_eqNodeS: function 38 -/
def laws_eqNodeS.l0 : Nat → List (S62) → List (S62) → Int → Option (Bool)
 | 0, _, _, _ => none
 | k + 1, x0, x1, x5 => if x5 < (x0.length : Int) then (if 0 ≤ x5 then (if x5 < (x1.length : Int) then ((laws_eqNode.f k ((rd_T62 x0 x5).f0) ((rd_T62 x0 x5).f1) ((rd_T62 x0 x5).f2) ((rd_T62 x0 x5).f3) ((rd_T62 x1 x5).f0) ((rd_T62 x1 x5).f1) ((rd_T62 x1 x5).f2) ((rd_T62 x1 x5).f3)).bind fun t181 => (if t181 = true then (laws_eqNodeS.l0 k x0 x1 (wrap64 (x5 + 1))) else (some false))) else (none)) else (none)) else (some true)
def laws_eqNodeS.f (k : Nat) (l0 : List (S62)) (l1 : List (S62)) : Option (Bool) := if (l0.length : Int) = (l1.length : Int) then (laws_eqNodeS.l0 k l0 l1 0) else (some false)
theorem laws_eqNodeS.mono_l : ∀ k, (∀ y0 y1 y2, LeO (laws_eqNodeS.l0 k y0 y1 y2) (laws_eqNodeS.l0 (k + 1) y0 y1 y2))
 | 0 => fun _ _ _ r h => by simp [laws_eqNodeS.l0] at h
 | k + 1 => by
  have ih0 := laws_eqNodeS.mono_l k
  ·
   intro y0 y1 y2
   unfold laws_eqNodeS.l0
   with_reducible repeat' first | exact ih0 _ _ _ | exact laws_eqNode.mono _ _ _ _ _ _ _ _ _ | exact LeO.refl _ | exact LeO.none _ | refine LeO.ite ?_ ?_ | refine LeO.bind ?_ (fun _ => ?_)
theorem laws_eqNodeS.mono : ∀ a0 a1 k, LeO (laws_eqNodeS.f k a0 a1) (laws_eqNodeS.f (k + 1) a0 a1) := by
 intro a0 a1 k; have ih0 := laws_eqNodeS.mono_l k
 unfold laws_eqNodeS.f
 with_reducible repeat' first | exact ih0 _ _ _ | exact laws_eqNode.mono _ _ _ _ _ _ _ _ _ | exact LeO.refl _ | exact LeO.none _ | refine LeO.ite ?_ ?_ | refine LeO.bind ?_ (fun _ => ?_)
def laws_eqNodeS.T6 : Bool × List (List Nat × List Nat) := (true, [([], []), ([], []), ([0, 1], [0, 1]), ([2], [2]), ([], []), ([], []), ([4, 5], [4, 5]), ([6], [6]), ([3, 7], [3, 7]), ([8], [8])])
def laws_eqNodeS.B6 : List Nat := [0, 0, 3, 7, 0, 0, 48, 112, 255, 511]
theorem laws_eqNodeS.tab6 : rtab .any (opsOf Tryz.f38 6) = laws_eqNodeS.T6 := by kernel_rfl
theorem laws_eqNodeS.bits6 : waitsOk laws_eqNodeS.T6.2 laws_eqNodeS.B6 = true := by kernel_rfl
set_option maxHeartbeats 8000000 in
set_option maxRecDepth 100000 in
theorem laws_eqNodeS.calls (k : Nat) (A0 : Option Addr) (c0 : Nat) (l0 : List (S62)) (A1 : Option Addr) (c1 : Nat) (l1 : List (S62)) (r : Bool) (w : World) (hr0 : Kd.C k62 w A0 l0.length l0) (hc0 : l0.length ≤ c0) (hr1 : Kd.C k62 w A1 l1.length l1) (hc1 : l1.length ≤ c1) (h : laws_eqNodeS.f k l0 l1 = some r) :
  Calls Tryz.prog 38 #[.slice A0 l0.length c0, .slice A1 l1.length c1] w fun e w' => e = .returned (.bool r) ∧ Below w.heap.size w w' := by
 have hu62 := Tryz.underlying62; have HR0 := As.mk hr0; have HC0 := As.mk hc0; clear hr0 hc0; have HR1 := As.mk hr1; have HC1 := As.mk hc1; clear hr1 hc1; have HB := As.mk (Below.refl w.heap.size w); have H : (if (l0.length : Int) = (l1.length : Int) then (laws_eqNodeS.l0 k l0 l1 0) else (some false)) = some r := h; clear h
 by_cases c3 : (l0.length : Int) = (l1.length : Int)
 rotate_left
 ·
  rw [if_neg c3] at H; have c3b0 : ((l0.length : Int) == (l1.length : Int)) = false := beq_eq_false_iff_ne.mpr c3; have c3b1 : ((l0.length : Int) != (l1.length : Int)) = true := bne_iff_ne.mpr c3
  have c3b2 : (l0.length == l1.length) = false := by first | simpa using c3 | (simp at c3 ⊢; omega)
  obtain rfl := sj H; go_enter Tryz.func38, Tryz.ntmps38
  go_wp2
  go_ret
  exact ⟨ez, be w⟩

 rw [if_pos c3] at H; have c3b0 : ((l0.length : Int) == (l1.length : Int)) = true := beq_iff_eq.mpr c3; have c3b1 : ((l0.length : Int) != (l1.length : Int)) = false := bne_eq_false_iff_eq.mpr c3
 have c3b2 : (l0.length == l1.length) = true := by first | simpa using c3 | (simp at c3 ⊢; omega)
 clear c3; have H' := As.mk H; clear H; go_enter Tryz.func38, Tryz.ntmps38
 go_wp2
 go_loopg [5] k (fun kq v5 w' => ∃ (x5_1 : Int), v5 = .int .i64 x5_1 ∧ As (laws_eqNodeS.l0 kq l0 l1 x5_1 = some r) ∧ As (kq ≤ k) ∧ As (Below w.heap.size w w'))
 case atStart => exact ⟨(0), (by first | rfl | (simp; done) | (simp [*]; done)), H', ⟨Nat.le_refl _⟩, ⟨be w⟩⟩
 case round =>
  clear H'; (try clear c3); (try clear c3b0); (try clear c3b1); (try clear c3b2); obtain ⟨x5_1, rfl, HA, HK1, HB⟩ := hrel
  cases gk with
  | zero => exact absurd HA.out (by simp [laws_eqNodeS.l0])
  | succ k1 =>
   have H := HA.out; clear HA
   simp only [laws_eqNodeS.l0] at H
   by_cases c4 : x5_1 < (l0.length : Int)
   rotate_left
   ·
    rw [if_neg c4] at H; have c4b0 := decide_eq_false c4; clear c4; obtain rfl := sj H
    go_wp2
    go_ret
    exact ⟨ez, be w⟩
   rw [if_pos c4] at H; have c4b0 := decide_eq_true c4; clear c4; replace H := ia H; obtain ⟨c5b0, H⟩ := H; replace H := ia H; obtain ⟨c6b0, H⟩ := H; replace H := bo H; obtain ⟨t181, A7, H⟩ := H
   by_cases c8 : t181 = true
   ·
    subst c8; rw [if_pos rfl] at H; have H' := As.mk H; clear H
    try go_wp2
    replace HB := As.mk (below_drew1 HB.out); have p179 : 0 ≤ (x5_1 : Int) := od; have q179 : x5_1 < (l0.length : Int) := od; obtain ⟨ad179, A179_3, c179_3, e179, x179a, x179b, x179c, x179d, hl179_3, hi179_3⟩ := at_T62 HR0.out x5_1 p179 q179; have hw179_3 := x179d; have hw179_2 := x179c; have hw179_1 := x179b; have hw179_0 := x179a; cases e179; replace x179a := ce HB.out x179a; replace x179b := ce HB.out x179b; replace x179c := ce HB.out x179c; replace x179d := ce HB.out x179d; have HR179_3 := As.mk hi179_3; have HC179_3 := As.mk hl179_3; clear hi179_3 hl179_3; replace p179 := eq_true p179; replace q179 := eq_true q179; have p180 : 0 ≤ (x5_1 : Int) := od; have q180 : x5_1 < (l1.length : Int) := od; obtain ⟨ad180, A180_3, c180_3, e180, x180a, x180b, x180c, x180d, hl180_3, hi180_3⟩ := at_T62 HR1.out x5_1 p180 q180; have hw180_3 := x180d; have hw180_2 := x180c; have hw180_1 := x180b; have hw180_0 := x180a; cases e180; replace x180a := ce HB.out x180a; replace x180b := ce HB.out x180b; replace x180c := ce HB.out x180c; replace x180d := ce HB.out x180d; have HR180_3 := As.mk hi180_3; have HC180_3 := As.mk hl180_3; clear hi180_3 hl180_3; replace p180 := eq_true p180; replace q180 := eq_true q180
    refine start_ (n := 10) (S := _) (ds := []) #[O,O,O,O,O,O,O,O,O,O] (by kernel_rfl) rfl rfl (ba (cf hw179_0) (ba (cf hw179_1) (ba (cf hw179_2) (ba (cf hw179_3) (ba (cf hw180_0) (ba (cf hw180_1) (ba (cf hw180_2) (cf hw180_3)))))))) (fun hHeld => ?_); refine with_tabW laws_eqNodeS.tab6 laws_eqNodeS.bits6 (fun HT_ HW_ => ?_)
    generalize wr.drew = w9 at HB HR179_3 HR180_3 x179a x179b x179c x179d x180a x180b x180c x180d hHeld ⊢
    refine pq 0 17 HT_ _ _ ?_; refine pq 1 18 HT_ _ _ ?_; refine pq 2 19 HT_ _ _ ?_; refine pq 4 21 HT_ _ _ ?_; refine pq 5 22 HT_ _ _ ?_; refine pq 6 23 HT_ _ _ ?_; refine tq_c1c1c1c1c1c1c1c1 3 20 HT_ HW_.out hHeld _ _ ?_; refine tq_c1c1c1c1c1c1c1c1 7 24 HT_ HW_.out hHeld _ _ ?_; refine on 8 (some 25) HT_ (fun K hK => ?_); refine goS Tryz.func68 #[.agg #[.int .i64 ((rd_T62 l0 x5_1).f0), .int .i64 ((rd_T62 l0 x5_1).f1), .string ((rd_T62 l0 x5_1).f2), .slice A179_3 ((rd_T62 l0 x5_1).f3).length c179_3], .agg #[.int .i64 ((rd_T62 l1 x5_1).f0), .int .i64 ((rd_T62 l1 x5_1).f1), .string ((rd_T62 l1 x5_1).f2), .slice A180_3 ((rd_T62 l1 x5_1).f3).length c180_3]] ?_
    with_reducible refine (laws_eqNode.calls k1 ((rd_T62 l0 x5_1).f0) ((rd_T62 l0 x5_1).f1) ((rd_T62 l0 x5_1).f2) _ _ ((rd_T62 l0 x5_1).f3) ((rd_T62 l1 x5_1).f0) ((rd_T62 l1 x5_1).f1) ((rd_T62 l1 x5_1).f2) _ _ ((rd_T62 l1 x5_1).f3) true _ ?side1 ?side2 ?side3 ?side4 A7.out).mono ?_
    (case side1 => exact Kd.C_below HR179_3.out (be w))
    (case side2 => exact HC179_3.out)
    (case side3 => exact Kd.C_below HR180_3.out (be w))
    (case side4 => exact HC180_3.out)
    rintro e w10 ⟨rfl, hb⟩
    refine ⟨_, rfl, ?_⟩
    replace HB := bs w hb; (try clear hb); (try clear hb2); (try clear hk); (try clear hi)
    refine hK.out _ _ (ba (cf hw179_0) (ba (cf hw179_1) (ba (cf hw179_2) (ba (cf hw179_3) (ba (cf hw180_0) (ba (cf hw180_1) (ba (cf hw180_2) (cf hw180_3)))))))) (fun hHeld => ?_)
    clear hK K; refine nm _ ?_; refine pq 9 26 HT_ _ _ ?_
    refine done_ (done_of HT_.out (by kernel_rfl)) ?_
    try go_wp2
    go_roundg k1
    case measure => have := HK1.out; omega
    case rel => exact ⟨(wrap64 (x5_1 + 1)), (by first | rfl | (simp; done) | (simp [*]; done)), H', ⟨by have := HK1.out; omega⟩, ⟨be w⟩⟩
   replace c8 := Bool.eq_false_iff.mpr c8; subst c8; rw [if_neg ft] at H; obtain rfl := sj H
   try go_wp2
   replace HB := As.mk (below_drew1 HB.out); have p179 : 0 ≤ (x5_1 : Int) := od; have q179 : x5_1 < (l0.length : Int) := od; obtain ⟨ad179, A179_3, c179_3, e179, x179a, x179b, x179c, x179d, hl179_3, hi179_3⟩ := at_T62 HR0.out x5_1 p179 q179; have hw179_3 := x179d; have hw179_2 := x179c; have hw179_1 := x179b; have hw179_0 := x179a; cases e179; replace x179a := ce HB.out x179a; replace x179b := ce HB.out x179b; replace x179c := ce HB.out x179c; replace x179d := ce HB.out x179d; have HR179_3 := As.mk hi179_3; have HC179_3 := As.mk hl179_3; clear hi179_3 hl179_3; replace p179 := eq_true p179; replace q179 := eq_true q179; have p180 : 0 ≤ (x5_1 : Int) := od; have q180 : x5_1 < (l1.length : Int) := od; obtain ⟨ad180, A180_3, c180_3, e180, x180a, x180b, x180c, x180d, hl180_3, hi180_3⟩ := at_T62 HR1.out x5_1 p180 q180; have hw180_3 := x180d; have hw180_2 := x180c; have hw180_1 := x180b; have hw180_0 := x180a; cases e180; replace x180a := ce HB.out x180a; replace x180b := ce HB.out x180b; replace x180c := ce HB.out x180c; replace x180d := ce HB.out x180d; have HR180_3 := As.mk hi180_3; have HC180_3 := As.mk hl180_3; clear hi180_3 hl180_3; replace p180 := eq_true p180; replace q180 := eq_true q180
   refine start_ (n := 10) (S := _) (ds := []) #[O,O,O,O,O,O,O,O,O,O] (by kernel_rfl) rfl rfl (ba (cf hw179_0) (ba (cf hw179_1) (ba (cf hw179_2) (ba (cf hw179_3) (ba (cf hw180_0) (ba (cf hw180_1) (ba (cf hw180_2) (cf hw180_3)))))))) (fun hHeld => ?_); refine with_tabW laws_eqNodeS.tab6 laws_eqNodeS.bits6 (fun HT_ HW_ => ?_)
   generalize wr.drew = w11 at HB HR179_3 HR180_3 x179a x179b x179c x179d x180a x180b x180c x180d hHeld ⊢
   refine pq 0 17 HT_ _ _ ?_; refine pq 1 18 HT_ _ _ ?_; refine pq 2 19 HT_ _ _ ?_; refine pq 4 21 HT_ _ _ ?_; refine pq 5 22 HT_ _ _ ?_; refine pq 6 23 HT_ _ _ ?_; refine tq_c1c1c1c1c1c1c1c1 3 20 HT_ HW_.out hHeld _ _ ?_; refine tq_c1c1c1c1c1c1c1c1 7 24 HT_ HW_.out hHeld _ _ ?_; refine on 8 (some 25) HT_ (fun K hK => ?_); refine goS Tryz.func68 #[.agg #[.int .i64 ((rd_T62 l0 x5_1).f0), .int .i64 ((rd_T62 l0 x5_1).f1), .string ((rd_T62 l0 x5_1).f2), .slice A179_3 ((rd_T62 l0 x5_1).f3).length c179_3], .agg #[.int .i64 ((rd_T62 l1 x5_1).f0), .int .i64 ((rd_T62 l1 x5_1).f1), .string ((rd_T62 l1 x5_1).f2), .slice A180_3 ((rd_T62 l1 x5_1).f3).length c180_3]] ?_
   with_reducible refine (laws_eqNode.calls k1 ((rd_T62 l0 x5_1).f0) ((rd_T62 l0 x5_1).f1) ((rd_T62 l0 x5_1).f2) _ _ ((rd_T62 l0 x5_1).f3) ((rd_T62 l1 x5_1).f0) ((rd_T62 l1 x5_1).f1) ((rd_T62 l1 x5_1).f2) _ _ ((rd_T62 l1 x5_1).f3) false _ ?side1 ?side2 ?side3 ?side4 A7.out).mono ?_
   (case side1 => exact Kd.C_below HR179_3.out (be w))
   (case side2 => exact HC179_3.out)
   (case side3 => exact Kd.C_below HR180_3.out (be w))
   (case side4 => exact HC180_3.out)
   rintro e w12 ⟨rfl, hb⟩
   refine ⟨_, rfl, ?_⟩
   replace HB := bs w hb; (try clear hb); (try clear hb2); (try clear hk); (try clear hi)
   refine hK.out _ _ (ba (cf hw179_0) (ba (cf hw179_1) (ba (cf hw179_2) (ba (cf hw179_3) (ba (cf hw180_0) (ba (cf hw180_1) (ba (cf hw180_2) (cf hw180_3)))))))) (fun hHeld => ?_)
   clear hK K; refine nm _ ?_; refine pq 9 26 HT_ _ _ ?_
   refine done_ (done_of HT_.out (by kernel_rfl)) ?_
   try go_wp2
   go_ret
   exact ⟨ez, be w⟩
/-! ### laws_eqParam: function 112 -/
def laws_eqParam.f (a0_0 : ByteArray) (a0_1 : Int) (a1_0 : ByteArray) (a1_1 : Int) : Option (Bool) := if a0_0.toList = a1_0.toList then (if a0_1 = a1_1 then (some true) else (some false)) else (some false)
set_option maxHeartbeats 8000000 in
set_option maxRecDepth 100000 in
theorem laws_eqParam.calls (a0_0 : ByteArray) (a0_1 : Int) (a1_0 : ByteArray) (a1_1 : Int) (r : Bool) (w : World) (h : laws_eqParam.f a0_0 a0_1 a1_0 a1_1 = some r) :
  Calls Tryz.prog 112 #[.agg #[.string a0_0, .int .i64 a0_1], .agg #[.string a1_0, .int .i64 a1_1]] w fun e w' => e = .returned (.bool r) ∧ Below w.heap.size w w' := by
 have hu58 := Tryz.underlying58; have HB := As.mk (Below.refl w.heap.size w); have H : (if a0_0.toList = a1_0.toList then (if a0_1 = a1_1 then (some true) else (some false)) else (some false)) = some r := h; clear h
 by_cases c3 : a0_0.toList = a1_0.toList
 rotate_left
 ·
  rw [if_neg c3] at H; have c3b0 : (a0_0.toList == a1_0.toList) = false := beq_eq_false_iff_ne.mpr c3; have c3b1 : (a0_0.toList != a1_0.toList) = true := bne_iff_ne.mpr c3; obtain rfl := sj H; go_enter Tryz.func112, Tryz.ntmps112
  go_wp2_with (first | ((with_reducible refine gate_dst (N := 2) rfl ?_); refine bxe 2 #[.string a0_0, .int .i64 a0_1] 58 ?_; intro gb182 hg w15 BK182 hb; have GW182 := As.mk (gs w hg); replace HB := bs w hb; clear hb hg) | ((with_reducible refine gate_dst (N := 3) rfl ?_); refine bxe 3 #[.string a1_0, .int .i64 a1_1] 58 ?_; intro gb183 hg w16 BK183 hb; have GW183 := As.mk (gs w hg); replace HB := bs w hb; have NB182_183 := As.mk (nl hg (bx BK182.out)); have NB183_182 := As.mk (ng hg (bx BK182.out)); replace BK182 := bb BK182 hb; clear hb hg; have hnb17 := NB182_183.out; have hnc17 := NB183_182.out; obtain ⟨y18a, y18b, v18a, v18b⟩ := cl2 BK182.out; obtain ⟨y19a, y19b, v19a, v19b⟩ := cl2 BK183.out))
  go_ret
  exact ⟨ez, be w⟩

 rw [if_pos c3] at H; have c3b0 : (a0_0.toList == a1_0.toList) = true := beq_iff_eq.mpr c3; have c3b1 : (a0_0.toList != a1_0.toList) = false := bne_eq_false_iff_eq.mpr c3; clear c3
 by_cases c4 : a0_1 = a1_1
 ·
  rw [if_pos c4] at H; have c4b0 : (a0_1 == a1_1) = true := beq_iff_eq.mpr c4; have c4b1 : (a0_1 != a1_1) = false := bne_eq_false_iff_eq.mpr c4; clear c4; obtain rfl := sj H; go_enter Tryz.func112, Tryz.ntmps112
  go_wp2_with (first | ((with_reducible refine gate_dst (N := 2) rfl ?_); refine bxe 2 #[.string a0_0, .int .i64 a0_1] 58 ?_; intro gb182 hg w5 BK182 hb; have GW182 := As.mk (gs w hg); replace HB := bs w hb; clear hb hg) | ((with_reducible refine gate_dst (N := 3) rfl ?_); refine bxe 3 #[.string a1_0, .int .i64 a1_1] 58 ?_; intro gb183 hg w6 BK183 hb; have GW183 := As.mk (gs w hg); replace HB := bs w hb; have NB182_183 := As.mk (nl hg (bx BK182.out)); have NB183_182 := As.mk (ng hg (bx BK182.out)); replace BK182 := bb BK182 hb; clear hb hg; have hnb7 := NB182_183.out; have hnc7 := NB183_182.out; obtain ⟨y8a, y8b, v8a, v8b⟩ := cl2 BK182.out; obtain ⟨y9a, y9b, v9a, v9b⟩ := cl2 BK183.out))
  go_ret
  exact ⟨ez, be w⟩
 rw [if_neg c4] at H; have c4b0 : (a0_1 == a1_1) = false := beq_eq_false_iff_ne.mpr c4; have c4b1 : (a0_1 != a1_1) = true := bne_iff_ne.mpr c4; obtain rfl := sj H; go_enter Tryz.func112, Tryz.ntmps112
 go_wp2_with (first | ((with_reducible refine gate_dst (N := 2) rfl ?_); refine bxe 2 #[.string a0_0, .int .i64 a0_1] 58 ?_; intro gb182 hg w10 BK182 hb; have GW182 := As.mk (gs w hg); replace HB := bs w hb; clear hb hg) | ((with_reducible refine gate_dst (N := 3) rfl ?_); refine bxe 3 #[.string a1_0, .int .i64 a1_1] 58 ?_; intro gb183 hg w11 BK183 hb; have GW183 := As.mk (gs w hg); replace HB := bs w hb; have NB182_183 := As.mk (nl hg (bx BK182.out)); have NB183_182 := As.mk (ng hg (bx BK182.out)); replace BK182 := bb BK182 hb; clear hb hg; have hnb12 := NB182_183.out; have hnc12 := NB183_182.out; obtain ⟨y13a, y13b, v13a, v13b⟩ := cl2 BK182.out; obtain ⟨y14a, y14b, v14a, v14b⟩ := cl2 BK183.out))
 go_ret
 exact ⟨ez, be w⟩
end Go.Proofs.YtcoapbnbakmkoaaGreatDoor.PFnExactShowProgram
