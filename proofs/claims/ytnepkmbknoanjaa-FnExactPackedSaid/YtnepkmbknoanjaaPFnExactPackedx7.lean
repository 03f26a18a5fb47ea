/- Written by a program of this session (a turned copy of the kit's print): a contract for each Go function. No condition beside those in each statement. -/
import Derived.Test.YtnepkmbknoanjaaPFnExactPackedx0
import Derived.Test.YtnepkmbknoanjaaPFnExactPackedx1
import Derived.Test.YtnepkmbknoanjaaPFnExactPackedx2
import Derived.Test.YtnepkmbknoanjaaPFnExactPackedx3
import Derived.Test.YtnepkmbknoanjaaPFnExactPackedx4
import Derived.Test.YtnepkmbknoanjaaPFnExactPackedx5
namespace Go.Proofs.Ytnepkmbknoanjaa.PFnExactPacked
open Go.RowKit Go.Proofs.YtnepkmbknoanjaaW.PrintWords Go.Proofs.YtnepkmbknoanjaaW.PrintLast Go.Proofs.YtnepkmbknoanjaaW.PrintMore
attribute [local go_sem] max2_int min2_int max_two min_two max_three min_three max_four min_four   -- for this text's walks alone
set_option linter.unusedVariables false
set_option linter.unusedSimpArgs false

/-! ### by hand: mkk_markNodeS, mkk_markFnS, markProgram -/
theorem mkk_wS {m : Int} (h0 : 0 ≤ m) (h1 : m < 4611686018427387904) : wrap64 (m + 1) = m + 1 := by unfold wrap64; omega
theorem mkk_markInts_l0 : ∀ (d i : Nat) (xs : List Int) (a : Int), i + d = xs.length → xs.length < 4611686018427387904 → 0 ≤ a → a + d < 4611686018427387904 → ∃ k r, laws_markIntS.l0 k xs a (i : Int) = some (a + d, r)
  | 0, i, xs, a, h, hl, h0, h1 => ⟨1, xs, by rw [laws_markIntS.l0, if_neg (by omega)]; simp⟩
  | d + 1, i, xs, a, h, hl, h0, h1 => by
    obtain ⟨k, r, e⟩ := mkk_markInts_l0 d (i + 1) (xs.set i a) (a + 1) (by rw [List.length_set]; omega) (by rw [List.length_set]; exact hl) (by omega) (by omega)
    refine ⟨k + 1, r, ?_⟩
    rw [laws_markIntS.l0, if_pos (by omega), if_pos (by omega), mkk_wS h0 (by omega), mkk_wS (by omega) (by omega), Int.toNat_natCast]
    rw [show ((i : Int) + 1) = ((i + 1 : Nat) : Int) by omega, e]
    congr 2
    omega
theorem mkk_markInts_some (xs : List Int) (a : Int) (hl : xs.length < 4611686018427387904) (h0 : 0 ≤ a) (h1 : a + xs.length < 4611686018427387904) : ∃ k r, laws_markIntS.f k xs a = some (a + xs.length, r) :=
  mkk_markInts_l0 xs.length 0 xs a (by omega) hl h0 h1
theorem mkk_markText_l0 : ∀ (n : Nat) (a : Int) (s : ByteArray), a < 10 ^ n → s.size + n < 1000 → ∃ k t, laws_markText.l0 k a s = some t
  | 0, a, s, h, hs => ⟨1, _, by rw [laws_markText.l0, if_neg (by omega), if_pos (by omega)]⟩
  | n + 1, a, s, h, hs => by
    by_cases c : a > 0
    · have hz : (strOfNums [(wrap64 (48 + (Int.tmod a 10))) % 256]).size = 1 := rfl
      have e1 : Int.tdiv a 10 = a / 10 := Int.tdiv_eq_ediv_of_nonneg (by omega)
      by_cases c2 : a / 10 ≤ 9223372036854775807
      · have e2 : wrap64 (a / 10) = a / 10 := by unfold wrap64; omega
        have hp : a / 10 < 10 ^ n := by
          have : (10 : Int) ^ (n + 1) = 10 ^ n * 10 := by rw [Int.pow_succ]
          omega
        obtain ⟨k, t, e⟩ := mkk_markText_l0 n (a / 10) (strOfNums [(wrap64 (48 + (Int.tmod a 10))) % 256] ++ s) hp (by rw [ByteArray.size_append, hz]; omega)
        exact ⟨k + 1, t, by rw [laws_markText.l0, if_pos c, Option.bind_some, if_pos (by rw [hz]; omega), e1, e2]; exact e⟩
      · obtain ⟨k, t, e⟩ := mkk_markText_l0 n (wrap64 (a / 10)) (strOfNums [(wrap64 (48 + (Int.tmod a 10))) % 256] ++ s) (by
          have h9 : wrap64 (a / 10) ≤ a / 10 := by unfold wrap64; omega
          have : (10 : Int) ^ (n + 1) = 10 ^ n * 10 := by rw [Int.pow_succ]
          omega) (by rw [ByteArray.size_append, hz]; omega)
        exact ⟨k + 1, t, by rw [laws_markText.l0, if_pos c, Option.bind_some, if_pos (by rw [hz]; omega), e1]; exact e⟩
    · exact ⟨1, _, by rw [laws_markText.l0, if_neg c, if_pos (by omega)]⟩
theorem mkk_markText_some (a : Int) (h : a < 4611686018427387904) : ∃ k t, laws_markText.f k a = some t := by
  by_cases c : a ≤ 0
  · exact ⟨0, _, by rw [laws_markText.f, if_pos c]⟩
  · have h2 : a < 10 ^ 20 := by
      have : (10 : Int) ^ 20 = 100000000000000000000 := by decide
      omega
    obtain ⟨k, t, e⟩ := mkk_markText_l0 20 a ⟨#[]⟩ h2 (by decide)
    exact ⟨k, t, by rw [laws_markText.f, if_neg c]; exact e⟩
def mkk_nodesSum : List S64 → Nat
  | [] => 0
  | x :: r => 3 + x.f3.length + mkk_nodesSum r
theorem mkk_rd52 (xs : List S64) (i : Nat) (h : i < xs.length) : rd_T64 xs (i : Int) = xs[i] := by
  unfold rd_T64
  rw [Int.toNat_natCast, List.getD_eq_getElem?_getD, List.getElem?_eq_getElem h]
  rfl
theorem mkk_nodesSum_drop (xs : List S64) (i : Nat) (h : i < xs.length) : mkk_nodesSum (xs.drop i) = 3 + (rd_T64 xs (i : Int)).f3.length + mkk_nodesSum (xs.drop (i + 1)) := by
  rw [List.drop_eq_getElem_cons h, mkk_nodesSum, mkk_rd52 xs i h]
theorem mkk_rd52_set (xs : List S64) (i j : Nat) (x : S64) (h : i ≠ j) : rd_T64 (xs.set i x) (j : Int) = rd_T64 xs (j : Int) := by
  unfold rd_T64
  rw [Int.toNat_natCast, List.getD_eq_getElem?_getD, List.getD_eq_getElem?_getD, List.getElem?_set_ne h]
theorem mkk_rd52_at (xs : List S64) (i : Nat) (x : S64) (h : i < xs.length) : rd_T64 (xs.set i x) (i : Int) = x := by
  unfold rd_T64
  rw [Int.toNat_natCast, List.getD_eq_getElem?_getD, List.getElem?_set_self h]
  rfl
/-- The hole of a row's element i, for a store into its cells: nothing else is lent. -/
theorem mkk_S_elemF {α : Type} {d : Kd α} {e base g n cap : Nat} {ok : Nat → Prop} {W : World} {xs : List α} (h : Kd.S d e W base ok (.slice (some ⟨g, 0, none⟩) n cap) xs) (z : α) (i : Int) (h0 : 0 ≤ i) (h1 : i < n) :
    ∃ (oki : Nat → Prop) (c : List Value), c.length = d.sz ∧ d.M W base oki (xs.getD i.toNat z) c ∧ (∀ j u, c[j]? = some u → W.cell? ⟨g, i.toNat * d.sz + j, none⟩ = some u) ∧ (∀ j, W.frozen? ⟨g, i.toNat * d.sz + j, none⟩ = false) ∧
      ∀ {seg : List Value} {j : Nat} {x' : α}, j + seg.length ≤ d.sz → d.M W base oki x' (c.take j ++ seg ++ c.drop (j + seg.length)) → Kd.S d e (W.setCells g (i.toNat * d.sz + j) seg) base ok (.slice (some ⟨g, 0, none⟩) n cap) (xs.set i.toNat x') ∧ W.grownBy (W.setCells g (i.toNat * d.sz + j) seg) (some g) := by
  obtain ⟨oki, c, hcl, hM, hcc, hfr, _, hH⟩ := Kd.S_elem (Kd.S_mono (ok' := fun k => ok k ∧ ¬ (fun _ => False) k) h (fun k hk => ⟨hk, fun h => h⟩)) z i h0 h1
  exact ⟨oki, c, hcl, hM, hcc, hfr, fun hj hM' => Kd.S_seg hH h0 h1 hj hM' (fun _ hk => .inl hk) (fun _ hk => hk.elim)⟩
set_option maxHeartbeats 8000000 in
set_option maxRecDepth 100000 in
theorem mkk_markNodeS.calls (P : Nat → Prop) (u : Value) (l : List S64) (a : Int) (w0 w : World) (hB : Below w0.heap.size w0 w) (ho : Kd.S k64 64 w w0.heap.size P u l) (ha : 0 ≤ a) (hs : a + (mkk_nodesSum l : Nat) < 4611686018427387904) :
    Calls Try.prog 20 #[u, .int .i64 a] w fun e w' => e = .returned (.int .i64 (a + (mkk_nodesSum l : Nat))) ∧ Below w0.heap.size w0 w' ∧ Kept w w' P := by
 have HO0 := As.mk ho
 have HK := As.mk (Kept.refl w P)
 have HB := As.mk hB
 clear hB ho
 obtain ⟨b, hb⟩ : ∃ b : Int, b = a + (mkk_nodesSum l : Nat) := ⟨_, rfl⟩
 rw [← hb] at hs ⊢
 have H0 := As.mk (show ((0 : Nat) ≤ l.length ∧ a + (mkk_nodesSum (l.drop 0) : Nat) = b ∧ 0 ≤ a ∧ b < 4611686018427387904) from ⟨Nat.zero_le _, by rw [List.drop_zero]; exact hb.symm, ha, hs⟩)
 clear hb hs ha
 go_enter Try.func20, Try.ntmps20
 go_wp2
 go_loopg [1, 5] (l.length + 1) (fun kq v1 v5 w' => ∃ (m x : Int) (xs : List S64), v1 = .int .i64 m ∧ v5 = .int .i64 x ∧ As (∃ i : Nat, x = (i : Int) ∧ i + kq = l.length + 1 ∧ i ≤ l.length ∧ m + (mkk_nodesSum (l.drop i) : Nat) = b ∧ 0 ≤ m ∧ b < 4611686018427387904 ∧ xs.length = l.length ∧ ∀ j : Nat, i ≤ j → (rd_T64 xs (j : Int)).f3.length = (rd_T64 l (j : Int)).f3.length) ∧ As (Kd.S k64 64 w' w0.heap.size P u xs) ∧ As (Kept w w' P) ∧ As (Below w0.heap.size w0 w'))
 case atStart => exact ⟨a, 0, l, rfl, rfl, ⟨0, rfl, by omega, H0.out.1, H0.out.2.1, H0.out.2.2.1, H0.out.2.2.2, rfl, fun _ _ => rfl⟩, ⟨by (with_reducible repeat (first | apply Kd.S_alloc | apply Kd.S_drewN | apply Kd.S_drew)); exact HO0.out⟩, ⟨by repeat (first | (with_reducible first | exact HK.out | apply Kept.alloc | apply Kept.drewN | apply Kept.drew) | exact HK.out)⟩, ⟨be w0⟩⟩
 case round =>
  clear H0 HO0
  obtain ⟨m, x, xs, rfl, rfl, HI, HO, HK, HB⟩ := hrel
  by_cases c3 : x < (xs.length : Int)
  rotate_left
  ·
   have c3b0 : decide (x < (xs.length : Int)) = false := decide_eq_false c3
   obtain ⟨Ao, co, eo⟩ := Kd.S_slice HO.out
   subst eo
   have hm : m = b := by
    obtain ⟨i, rfl, h0, h1, h2, h3, h4, h5, h6⟩ := HI.out
    rw [List.drop_eq_nil_of_le (by omega)] at h2
    simp only [mkk_nodesSum] at h2
    omega
   subst hm
   go_wp2
   go_ret
   exact ⟨rfl, be w0, by repeat (first | (with_reducible first | exact HK.out | apply Kept.alloc | apply Kept.drewN | apply Kept.drew) | exact HK.out)⟩
  have c3b0 : decide (x < (xs.length : Int)) = true := decide_eq_true c3
  have hmx : xs.length ≤ 9223372036854775807 := by
   obtain ⟨Ao, co, eo⟩ := Kd.S_slice HO.out
   exact Kd.F_max (Kd.S_F (eo ▸ HO.out))
  have c0 : 0 ≤ x := by obtain ⟨i, rfl, _⟩ := HI.out; omega
  have c0b : decide (0 ≤ x) = true := decide_eq_true c0
  obtain ⟨Ao, co, eo⟩ := Kd.S_slice HO.out
  subst eo
  obtain ⟨go, co5, eo5, gb5, gl5, cl5, HG5⟩ := Kd.S_form HO.out (by omega)
  cases eo5
  have GB := As.mk gb5
  clear gb5 gl5 HG5
  have HPg := As.mk (show P go from (Kd.S_R HO.out).1 _ rfl)
  obtain ⟨y1, hy1⟩ : ∃ y_ : List S64, y_ = xs.set x.toNat (⟨m, (rd_T64 xs x).f1, (rd_T64 xs x).f2, (rd_T64 xs x).f3⟩ : S64) := ⟨_, rfl⟩
  obtain ⟨y2, hy2⟩ : ∃ y_ : List S64, y_ = y1.set x.toNat (⟨(rd_T64 y1 x).f0, wrap64 (m + 1), (rd_T64 y1 x).f2, (rd_T64 y1 x).f3⟩ : S64) := ⟨_, rfl⟩
  obtain ⟨kt, t, HT, HN⟩ : ∃ kt t, As (laws_markText.f kt (wrap64 (wrap64 (m + 1) + 1)) = some t) ∧ wrap64 (wrap64 (wrap64 (m + 1) + 1) + 1) = m + 3 := by
   obtain ⟨i, rfl, h0, h1, h2, h3, h4, h5, h6⟩ := HI.out
   have h7 := mkk_nodesSum_drop l i (by omega)
   have e1 := mkk_wS h3 (by omega)
   have e2 := mkk_wS (m := m + 1) (by omega) (by omega)
   have e3 := mkk_wS (m := m + 1 + 1) (by omega) (by omega)
   rw [e1, e2, e3]
   obtain ⟨kt, t, h8⟩ := mkk_markText_some (m + 1 + 1) (by omega)
   exact ⟨kt, t, ⟨h8⟩, by omega⟩
  obtain ⟨y3, hy3⟩ : ∃ y_ : List S64, y_ = y2.set x.toNat (⟨(rd_T64 y2 x).f0, (rd_T64 y2 x).f1, t, (rd_T64 y2 x).f3⟩ : S64) := ⟨_, rfl⟩
  obtain ⟨ki, r1, r2, HR, HE⟩ : ∃ ki r1 r2, As (laws_markIntS.f ki (rd_T64 y3 x).f3 (wrap64 (wrap64 (wrap64 (m + 1) + 1) + 1)) = some (r1, r2)) ∧ As (∃ i : Nat, wrap64 (x + 1) = (i : Int) ∧ i + (gk - 1) = l.length + 1 ∧ 1 ≤ gk ∧ i ≤ l.length ∧ r1 + (mkk_nodesSum (l.drop i) : Nat) = b ∧ 0 ≤ r1 ∧ b < 4611686018427387904 ∧ (y3.set x.toNat (⟨(rd_T64 y3 x).f0, (rd_T64 y3 x).f1, (rd_T64 y3 x).f2, r2⟩ : S64)).length = l.length ∧ ∀ j : Nat, i ≤ j → (rd_T64 (y3.set x.toNat (⟨(rd_T64 y3 x).f0, (rd_T64 y3 x).f1, (rd_T64 y3 x).f2, r2⟩ : S64)) (j : Int)).f3.length = (rd_T64 l (j : Int)).f3.length) := by
   rw [HN]
   obtain ⟨i, rfl, h0, h1, h2, h3, h4, h5, h6⟩ := HI.out
   have hi : i < l.length := by omega
   have h7 := mkk_nodesSum_drop l i hi
   have l1 : y1.length = l.length := by rw [hy1, List.length_set]; exact h5
   have l2 : y2.length = l.length := by rw [hy2, List.length_set]; exact l1
   have l3 : y3.length = l.length := by rw [hy3, List.length_set]; exact l2
   have e1 : (rd_T64 y3 (i : Int)).f3 = (rd_T64 xs (i : Int)).f3 := by
    rw [hy3, Int.toNat_natCast, mkk_rd52_at _ _ _ (by omega)]
    show (rd_T64 y2 (i : Int)).f3 = _
    rw [hy2, Int.toNat_natCast, mkk_rd52_at _ _ _ (by omega)]
    show (rd_T64 y1 (i : Int)).f3 = _
    rw [hy1, Int.toNat_natCast, mkk_rd52_at _ _ _ (by omega)]
   have e2 := h6 i (Nat.le_refl _)
   obtain ⟨ki, r2, h8⟩ := mkk_markInts_some (rd_T64 y3 (i : Int)).f3 (m + 3) (by rw [e1]; omega) (by omega) (by rw [e1]; omega)
   refine ⟨ki, _, r2, ⟨h8⟩, i + 1, by unfold wrap64; omega, by omega, by omega, by omega, by rw [e1]; omega, by omega, h4, by rw [List.length_set]; exact l3, fun j hj => ?_⟩
   rw [Int.toNat_natCast, mkk_rd52_set _ _ _ _ (by omega), hy3, Int.toNat_natCast, mkk_rd52_set _ _ _ _ (by omega), hy2, Int.toNat_natCast, mkk_rd52_set _ _ _ _ (by omega), hy1, Int.toNat_natCast, mkk_rd52_set _ _ _ _ (by omega)]
   exact h6 j (by omega)
  have Ny1 := As.mk hy1
  have Ny2 := As.mk hy2
  have Ny3 := As.mk hy3
  clear hy1 hy2 hy3 HI HN c3 c0 hmx
  have p0 := eq_true (of_decide_eq_true c0b)
  have q0 := eq_true (of_decide_eq_true c3b0)
  obtain ⟨_, ce1, hcl1, hM1, hcc1, hfr1, hput1⟩ := mkk_S_elemF HO.out z64 x (of_decide_eq_true c0b) (of_decide_eq_true c3b0)
  obtain ⟨v1, rfl, g1⟩ := k64_openM hM1
  have hx1 : wr.cell? ⟨go, x.toNat * 4, none⟩ = some (.int .i64 (rd_T64 xs x).f0) := hcc1 0 _ rfl
  have hf1 : wr.frozen? ⟨go, x.toNat * 4, none⟩ = false := hfr1 0
  have HP1 := As.mk (hput1 (seg := [.int .i64 m]) (j := 0) (x' := (⟨m, (rd_T64 xs x).f1, (rd_T64 xs x).f2, (rd_T64 xs x).f3⟩ : S64)) (show 1 ≤ 4 from by decide) (k64_mkM _ _ _ (⟨m, (rd_T64 xs x).f1, (rd_T64 xs x).f2, (rd_T64 xs x).f3⟩ : S64) g1))
  clear hcl1 hcc1 hfr1 hM1 hput1 g1
  go_wp2_with (first | ((with_reducible refine gate_store (t := 3) (p := 16) rfl ?_); refine store_event (t := 3) (p := 16) (v := ?vo_w11) (w1 := (wr.setCell ⟨go, x.toNat * 4, none⟩ (.int .i64 m))) ?hg ?ho ?hn ?hr ?_; (case ho => rfl); (case hg => rfl); (case hn => rfl); (case hr => first | (go_simp; done) | (go_simp; rfl)); intro w11 hw; have hg : wr.grownBy w11 (some go) := (by rw [hw]; exact HP1.out.2); have hp_ : Kd.S k64 64 w11 w0.heap.size P (.slice (some ⟨go, 0, none⟩) xs.length co) y1 := (by rw [hw, Ny1.out]; exact HP1.out.1); clear HP1 hx1 hf1 HO; have HO := As.mk hp_; replace HB := As.mk ((by rw [hw]; exact below_set HB.out GB.out : Below w0.heap.size w0 w11)); replace HK := As.mk (Kept.of_grown hg HK.out (fun k_ e_ => .inl (by injection e_ with e_; rw [← e_]; exact HPg.out))); clear hg hw hp_; obtain ⟨_, ce2, hcl2, hM2, hcc2, hfr2, hput2⟩ := mkk_S_elemF HO.out z64 x (of_decide_eq_true c0b) (of_decide_eq_true c3b0); obtain ⟨v2, rfl, g2⟩ := k64_openM hM2; have hx2 : w11.cell? ⟨go, x.toNat * 4 + 1, none⟩ = some (.int .i64 (rd_T64 y1 x).f1) := hcc2 1 _ rfl; have hf2 : w11.frozen? ⟨go, x.toNat * 4 + 1, none⟩ = false := hfr2 1; have HP2 := As.mk (hput2 (seg := [.int .i64 (wrap64 (m + 1))]) (j := 1) (x' := (⟨(rd_T64 y1 x).f0, wrap64 (m + 1), (rd_T64 y1 x).f2, (rd_T64 y1 x).f3⟩ : S64)) (show 2 ≤ 4 from by decide) (k64_mkM _ _ _ (⟨(rd_T64 y1 x).f0, wrap64 (m + 1), (rd_T64 y1 x).f2, (rd_T64 y1 x).f3⟩ : S64) g2)); clear hcl2 hcc2 hfr2 hM2 hput2 g2) | ((with_reducible refine gate_store (t := 3) (p := 23) rfl ?_); refine store_event (t := 3) (p := 23) (v := ?vo_w12) (w1 := (w11.setCell ⟨go, x.toNat * 4 + 1, none⟩ (.int .i64 (wrap64 (m + 1))))) ?hg ?ho ?hn ?hr ?_; (case ho => rfl); (case hg => rfl); (case hn => rfl); (case hr => first | (go_simp; done) | (go_simp; rfl)); intro w12 hw; have hg : w11.grownBy w12 (some go) := (by rw [hw]; exact HP2.out.2); have hp_ : Kd.S k64 64 w12 w0.heap.size P (.slice (some ⟨go, 0, none⟩) xs.length co) y2 := (by rw [hw, Ny2.out]; exact HP2.out.1); clear HP2 hx2 hf2 HO; have HO := As.mk hp_; replace HB := As.mk ((by rw [hw]; exact below_set HB.out GB.out : Below w0.heap.size w0 w12)); replace HK := As.mk (Kept.of_grown hg HK.out (fun k_ e_ => .inl (by injection e_ with e_; rw [← e_]; exact HPg.out))); clear hg hw hp_) | ((with_reducible refine gate_callee (f := 32) rfl ?_); refine goesL_ (some 29) rfl rfl Try.func32 (by kernel_rfl) rfl #[.int .i64 (wrap64 (wrap64 (m + 1) + 1))] rfl (by (try simp only [lm]); first | done | rfl) ?_; (with_reducible refine (laws_markText.calls kt _ t _ HT.out).mono ?_); rintro e w13 ⟨rfl, hb⟩; refine ⟨_, rfl, ?_⟩; replace HO := As.mk (Kd.S_below (by (with_reducible repeat (first | apply Kd.S_alloc | apply Kd.S_drewN | apply Kd.S_drew)); exact HO.out) hb); replace HK := As.mk (Kept.below (by repeat (first | (with_reducible first | exact HK.out | apply Kept.alloc | apply Kept.drewN | apply Kept.drew) | exact HK.out)) hb); replace HB := As.mk (below_step (be w0) hb); clear hb; obtain ⟨_, ce3, hcl3, hM3, hcc3, hfr3, hput3⟩ := mkk_S_elemF HO.out z64 x (of_decide_eq_true c0b) (of_decide_eq_true c3b0); obtain ⟨v3, rfl, g3⟩ := k64_openM hM3; have hx3 : w13.cell? ⟨go, x.toNat * 4 + 2, none⟩ = some (.string (rd_T64 y2 x).f2) := hcc3 2 _ rfl; have hf3 : w13.frozen? ⟨go, x.toNat * 4 + 2, none⟩ = false := hfr3 2; have HP3 := As.mk (hput3 (seg := [.string t]) (j := 2) (x' := (⟨(rd_T64 y2 x).f0, (rd_T64 y2 x).f1, t, (rd_T64 y2 x).f3⟩ : S64)) (show 3 ≤ 4 from by decide) (k64_mkM _ _ _ (⟨(rd_T64 y2 x).f0, (rd_T64 y2 x).f1, t, (rd_T64 y2 x).f3⟩ : S64) g3)); clear hcl3 hcc3 hfr3 hM3 hput3 g3) | ((with_reducible refine gate_store (t := 9) (p := 31) rfl ?_); refine store_event (t := 9) (p := 31) (v := ?vo_w14) (w1 := (w13.setCell ⟨go, x.toNat * 4 + 2, none⟩ (.string t))) ?hg ?ho ?hn ?hr ?_; (case ho => rfl); (case hg => rfl); (case hn => rfl); (case hr => first | (go_simp; done) | (go_simp; rfl)); intro w14 hw; have hg : w13.grownBy w14 (some go) := (by rw [hw]; exact HP3.out.2); have hp_ : Kd.S k64 64 w14 w0.heap.size P (.slice (some ⟨go, 0, none⟩) xs.length co) y3 := (by rw [hw, Ny3.out]; exact HP3.out.1); clear HP3 hx3 hf3 HO; have HO := As.mk hp_; replace HB := As.mk ((by rw [hw]; exact below_set HB.out GB.out : Below w0.heap.size w0 w14)); replace HK := As.mk (Kept.of_grown hg HK.out (fun k_ e_ => .inl (by injection e_ with e_; rw [← e_]; exact HPg.out))); clear hg hw hp_; obtain ⟨oki, ce4, hcl4, hM4, hcc4, hoki4, hH4⟩ := Kd.S_lend HO.out z64 x (of_decide_eq_true c0b) (of_decide_eq_true c3b0); obtain ⟨v4, rfl, g4⟩ := k64_openM hM4; obtain ⟨A4, c4, e4⟩ := Kd.R_slice g4; subst e4; have hx4 : w14.cell? ⟨go, x.toNat * 4 + 3, none⟩ = some (.slice A4 (rd_T64 y3 x).f3.length c4) := hcc4 3 _ rfl; have G4 := As.mk g4; have HH4 := As.mk hH4; have HO4 := As.mk hoki4; clear hcl4 hcc4 hM4 hH4 hoki4 g4 HO))
  refine (laws_markIntS.calls ki oki _ (rd_T64 y3 x).f3 _ r1 r2 w0 _ (be w0) (by (with_reducible repeat (first | apply Kd.R_alloc | apply Kd.R_drewN | apply Kd.R_drew)); exact G4.out) HR.out).mono ?_
  rintro e w15 ⟨rfl, hr_, hb, hkp⟩
  have hM5 : k64.M w15 w0.heap.size oki (⟨(rd_T64 y3 x).f0, (rd_T64 y3 x).f1, (rd_T64 y3 x).f2, r2⟩ : S64) [.int .i64 (rd_T64 y3 x).f0, .int .i64 (rd_T64 y3 x).f1, .string (rd_T64 y3 x).f2, .slice A4 (rd_T64 y3 x).f3.length c4] := k64_mkM w15 w0.heap.size oki (⟨(rd_T64 y3 x).f0, (rd_T64 y3 x).f1, (rd_T64 y3 x).f2, r2⟩ : S64) (Kd.R_reok rfl hr_ (fun k_ e_ => G4.out.1 k_ e_))
  have hH5 := Kd.H_kept HH4.out hkp (fun _ _ h_ => h_)
  have HO := As.mk (Kd.H_back hH5 hM5 (fun _ h_ => h_))
  clear hM5 hH5
  replace HB := As.mk hb
  replace HK := As.mk (Kept.then_ (by repeat (first | (with_reducible first | exact HK.out | apply Kept.alloc | apply Kept.drewN | apply Kept.drew) | exact HK.out)) hkp (fun k_ h_ => .inl (HO4.out k_ h_).1))
  clear hr_ hb hkp HH4 G4 HO4
  go_wp2
  go_roundg (gk - 1)
  case measure => obtain ⟨i, _, _, h_, _⟩ := HE.out; omega
  case rel =>
   obtain ⟨i, h1, h2, h3, h4, h5, h6, h7, h8, h9⟩ := HE.out
   exact ⟨r1, wrap64 (x + 1), _, rfl, rfl, ⟨i, h1, h2, h4, h5, h6, h7, h8, h9⟩, ⟨by (with_reducible repeat (first | apply Kd.S_alloc | apply Kd.S_drewN | apply Kd.S_drew)); exact HO.out⟩, ⟨by repeat (first | (with_reducible first | exact HK.out | apply Kept.alloc | apply Kept.drewN | apply Kept.drew) | exact HK.out)⟩, ⟨be w0⟩⟩
/-! mkk_markFnS -/
theorem mkk_le_ev {α : Type} {F : Nat → Option α} (hm : ∀ k, LeO (F k) (F (k + 1))) {k : Nat} {t : α} (h : F k = some t) : ∀ d, F (k + d) = some t
  | 0 => h
  | d + 1 => hm (k + d) t (mkk_le_ev hm h d)
theorem mkk_markText_ev (a : Int) (h : a < 4611686018427387904) : ∃ K t, ∀ k, K ≤ k → laws_markText.f k a = some t := by
  obtain ⟨K, t, e⟩ := mkk_markText_some a h
  exact ⟨K, t, fun k hk => by have := mkk_le_ev (F := fun k => laws_markText.f k a) (laws_markText.mono a) e (k - K); rwa [show K + (k - K) = k by omega] at this⟩
theorem mkk_markParams_l0 : ∀ (d i : Nat) (xs : List S80) (a : Int), i + d = xs.length → xs.length < 4611686018427387904 → 0 ≤ a → a + 2 * d < 4611686018427387904 → ∃ K r, ∀ k, K ≤ k → laws_markParamS.l0 k xs a (i : Int) = some (a + 2 * d, r)
  | 0, i, xs, a, h, hl, h0, h1 => ⟨1, xs, fun k hk => by
    obtain ⟨k, rfl⟩ : ∃ j, k = j + 1 := ⟨k - 1, by omega⟩
    rw [laws_markParamS.l0, if_neg (by omega)]; simp⟩
  | d + 1, i, xs, a, h, hl, h0, h1 => by
    obtain ⟨K1, t, e1⟩ := mkk_markText_ev a (by omega)
    obtain ⟨K2, r, e2⟩ := mkk_markParams_l0 d (i + 1) ((xs.set i (⟨t, (rd_T80 xs (i : Int)).f1⟩ : S80)).set i (⟨(rd_T80 (xs.set i (⟨t, (rd_T80 xs (i : Int)).f1⟩ : S80)) (i : Int)).f0, a + 1⟩ : S80)) (a + 2) (by rw [List.length_set, List.length_set]; omega) (by rw [List.length_set, List.length_set]; exact hl) (by omega) (by omega)
    refine ⟨K1 + K2 + 1, r, fun k hk => ?_⟩
    obtain ⟨k, rfl⟩ : ∃ j, k = j + 1 := ⟨k - 1, by omega⟩
    rw [laws_markParamS.l0, if_pos (by omega), e1 k (by omega), Option.bind_some, if_pos (by omega), Option.bind_some, mkk_wS h0 (by omega), mkk_wS (m := a + 1) (by omega) (by omega), mkk_wS (m := (i : Int)) (by omega) (by omega), Int.toNat_natCast]
    rw [show ((i : Int) + 1) = ((i + 1 : Nat) : Int) by omega, show a + 1 + 1 = a + 2 by omega, e2 k (by omega)]
    congr 2
    omega
theorem mkk_markParams_some (xs : List S80) (a : Int) (hl : xs.length < 4611686018427387904) (h0 : 0 ≤ a) (h1 : a + 2 * xs.length < 4611686018427387904) : ∃ k r, laws_markParamS.f k xs a = some (a + 2 * xs.length, r) := by
  obtain ⟨K, r, e⟩ := mkk_markParams_l0 xs.length 0 xs a (by omega) hl h0 h1
  exact ⟨K, r, e K (Nat.le_refl _)⟩
def mkk_fnsSum : List S44 → Nat
  | [] => 0
  | x :: r => 4 + 2 * x.f1.length + mkk_fnsSum r
theorem mkk_rd69 (xs : List S44) (i : Nat) (h : i < xs.length) : rd_T44 xs (i : Int) = xs[i] := by
  unfold rd_T44
  rw [Int.toNat_natCast, List.getD_eq_getElem?_getD, List.getElem?_eq_getElem h]
  rfl
theorem mkk_fnsSum_drop (xs : List S44) (i : Nat) (h : i < xs.length) : mkk_fnsSum (xs.drop i) = 4 + 2 * (rd_T44 xs (i : Int)).f1.length + mkk_fnsSum (xs.drop (i + 1)) := by
  rw [List.drop_eq_getElem_cons h, mkk_fnsSum, mkk_rd69 xs i h]
theorem mkk_rd69_set (xs : List S44) (i j : Nat) (x : S44) (h : i ≠ j) : rd_T44 (xs.set i x) (j : Int) = rd_T44 xs (j : Int) := by
  unfold rd_T44
  rw [Int.toNat_natCast, List.getD_eq_getElem?_getD, List.getD_eq_getElem?_getD, List.getElem?_set_ne h]
theorem mkk_rd69_at (xs : List S44) (i : Nat) (x : S44) (h : i < xs.length) : rd_T44 (xs.set i x) (i : Int) = x := by
  unfold rd_T44
  rw [Int.toNat_natCast, List.getD_eq_getElem?_getD, List.getElem?_set_self h]
  rfl
set_option maxHeartbeats 8000000 in
set_option maxRecDepth 100000 in
theorem mkk_markFnS.calls (P : Nat → Prop) (u : Value) (l : List S44) (a : Int) (w0 w : World) (hB : Below w0.heap.size w0 w) (ho : Kd.S k44 44 w w0.heap.size P u l) (ha : 0 ≤ a) (hs : a + (mkk_fnsSum l : Nat) < 4611686018427387904) :
    Calls Try.prog 21 #[u, .int .i64 a] w fun e w' => e = .returned (.int .i64 (a + (mkk_fnsSum l : Nat))) ∧ Below w0.heap.size w0 w' ∧ Kept w w' P := by
 have HO0 := As.mk ho
 have HK := As.mk (Kept.refl w P)
 have HB := As.mk hB
 clear hB ho
 obtain ⟨b, hb⟩ : ∃ b : Int, b = a + (mkk_fnsSum l : Nat) := ⟨_, rfl⟩
 rw [← hb] at hs ⊢
 have H0 := As.mk (show ((0 : Nat) ≤ l.length ∧ a + (mkk_fnsSum (l.drop 0) : Nat) = b ∧ 0 ≤ a ∧ b < 4611686018427387904) from ⟨Nat.zero_le _, by rw [List.drop_zero]; exact hb.symm, ha, hs⟩)
 clear hb hs ha
 go_enter Try.func21, Try.ntmps21
 go_wp2
 go_loopg [1, 5] (l.length + 1) (fun kq v1 v5 w' => ∃ (m x : Int) (xs : List S44), v1 = .int .i64 m ∧ v5 = .int .i64 x ∧ As (∃ i : Nat, x = (i : Int) ∧ i + kq = l.length + 1 ∧ i ≤ l.length ∧ m + (mkk_fnsSum (l.drop i) : Nat) = b ∧ 0 ≤ m ∧ b < 4611686018427387904 ∧ xs.length = l.length ∧ ∀ j : Nat, i ≤ j → (rd_T44 xs (j : Int)).f1.length = (rd_T44 l (j : Int)).f1.length) ∧ As (Kd.S k44 44 w' w0.heap.size P u xs) ∧ As (Kept w w' P) ∧ As (Below w0.heap.size w0 w'))
 case atStart => exact ⟨a, 0, l, rfl, rfl, ⟨0, rfl, by omega, H0.out.1, H0.out.2.1, H0.out.2.2.1, H0.out.2.2.2, rfl, fun _ _ => rfl⟩, ⟨by (with_reducible repeat (first | apply Kd.S_alloc | apply Kd.S_drewN | apply Kd.S_drew)); exact HO0.out⟩, ⟨by repeat (first | (with_reducible first | exact HK.out | apply Kept.alloc | apply Kept.drewN | apply Kept.drew) | exact HK.out)⟩, ⟨be w0⟩⟩
 case round =>
  clear H0 HO0
  obtain ⟨m, x, xs, rfl, rfl, HI, HO, HK, HB⟩ := hrel
  by_cases c3 : x < (xs.length : Int)
  rotate_left
  ·
   have c3b0 : decide (x < (xs.length : Int)) = false := decide_eq_false c3
   obtain ⟨Ao, co, eo⟩ := Kd.S_slice HO.out
   subst eo
   have hm : m = b := by
    obtain ⟨i, rfl, h0, h1, h2, h3, h4, h5, h6⟩ := HI.out
    rw [List.drop_eq_nil_of_le (by omega)] at h2
    simp only [mkk_fnsSum] at h2
    omega
   subst hm
   go_wp2
   go_ret
   exact ⟨rfl, be w0, by repeat (first | (with_reducible first | exact HK.out | apply Kept.alloc | apply Kept.drewN | apply Kept.drew) | exact HK.out)⟩
  have c3b0 : decide (x < (xs.length : Int)) = true := decide_eq_true c3
  have hmx : xs.length ≤ 9223372036854775807 := by
   obtain ⟨Ao, co, eo⟩ := Kd.S_slice HO.out
   exact Kd.F_max (Kd.S_F (eo ▸ HO.out))
  have c0 : 0 ≤ x := by obtain ⟨i, rfl, _⟩ := HI.out; omega
  have c0b : decide (0 ≤ x) = true := decide_eq_true c0
  obtain ⟨Ao, co, eo⟩ := Kd.S_slice HO.out
  subst eo
  obtain ⟨go, co5, eo5, gb5, gl5, cl5, HG5⟩ := Kd.S_form HO.out (by omega)
  cases eo5
  have GB := As.mk gb5
  clear gb5 gl5 HG5
  have HPg := As.mk (show P go from (Kd.S_R HO.out).1 _ rfl)
  obtain ⟨kt, t, HT, HN⟩ : ∃ kt t, As (laws_markText.f kt m = some t) ∧ wrap64 (m + 1) = m + 1 := by
   obtain ⟨i, rfl, h0, h1, h2, h3, h4, h5, h6⟩ := HI.out
   have h7 := mkk_fnsSum_drop l i (by omega)
   obtain ⟨kt, t, h8⟩ := mkk_markText_some m (by omega)
   exact ⟨kt, t, ⟨h8⟩, mkk_wS h3 (by omega)⟩
  obtain ⟨y1, hy1⟩ : ∃ y_ : List S44, y_ = xs.set x.toNat (⟨t, (rd_T44 xs x).f1, (rd_T44 xs x).f2, (rd_T44 xs x).f3, (rd_T44 xs x).f4⟩ : S44) := ⟨_, rfl⟩
  obtain ⟨ki, r1, r2, HR, HE⟩ : ∃ ki r1 r2, As (laws_markParamS.f ki (rd_T44 y1 x).f1 (wrap64 (m + 1)) = some (r1, r2)) ∧ ∀ y2 y3 y4 y5 : List S44, y2 = y1.set x.toNat (⟨(rd_T44 y1 x).f0, r2, (rd_T44 y1 x).f2, (rd_T44 y1 x).f3, (rd_T44 y1 x).f4⟩ : S44) → y3 = y2.set x.toNat (⟨(rd_T44 y2 x).f0, (rd_T44 y2 x).f1, r1, (rd_T44 y2 x).f3, (rd_T44 y2 x).f4⟩ : S44) → y4 = y3.set x.toNat (⟨(rd_T44 y3 x).f0, (rd_T44 y3 x).f1, (rd_T44 y3 x).f2, (wrap64 (r1 + 1)), (rd_T44 y3 x).f4⟩ : S44) → y5 = y4.set x.toNat (⟨(rd_T44 y4 x).f0, (rd_T44 y4 x).f1, (rd_T44 y4 x).f2, (rd_T44 y4 x).f3, (wrap64 (wrap64 (r1 + 1) + 1))⟩ : S44) → ∃ i : Nat, wrap64 (x + 1) = (i : Int) ∧ i + (gk - 1) = l.length + 1 ∧ 1 ≤ gk ∧ i ≤ l.length ∧ (wrap64 (wrap64 (wrap64 (r1 + 1) + 1) + 1)) + (mkk_fnsSum (l.drop i) : Nat) = b ∧ 0 ≤ (wrap64 (wrap64 (wrap64 (r1 + 1) + 1) + 1)) ∧ b < 4611686018427387904 ∧ y5.length = l.length ∧ ∀ j : Nat, i ≤ j → (rd_T44 y5 (j : Int)).f1.length = (rd_T44 l (j : Int)).f1.length := by
   rw [HN]
   obtain ⟨i, rfl, h0, h1, h2, h3, h4, h5, h6⟩ := HI.out
   have hi : i < l.length := by omega
   have h7 := mkk_fnsSum_drop l i hi
   have l1 : y1.length = l.length := by rw [hy1, List.length_set]; exact h5
   have e1 : (rd_T44 y1 (i : Int)).f1 = (rd_T44 xs (i : Int)).f1 := by
    rw [hy1, Int.toNat_natCast, mkk_rd69_at _ _ _ (by omega)]
   have e2 := h6 i (Nat.le_refl _)
   obtain ⟨ki, r2, h8⟩ := mkk_markParams_some (rd_T44 y1 (i : Int)).f1 (m + 1) (by rw [e1]; omega) (by omega) (by rw [e1]; omega)
   refine ⟨ki, _, r2, ⟨h8⟩, fun y2 y3 y4 y5 hy2 hy3 hy4 hy5 => ⟨i + 1, by unfold wrap64; omega, by omega, by omega, by omega, ?_⟩⟩
   have g1 := mkk_wS (m := m + 1 + 2 * (rd_T44 y1 (i : Int)).f1.length) (by omega) (by rw [e1]; omega)
   have g2 := mkk_wS (m := m + 1 + 2 * (rd_T44 y1 (i : Int)).f1.length + 1) (by omega) (by rw [e1]; omega)
   have g3 := mkk_wS (m := m + 1 + 2 * (rd_T44 y1 (i : Int)).f1.length + 1 + 1) (by omega) (by rw [e1]; omega)
   rw [g1, g2, g3]
   refine ⟨by rw [e1]; omega, by omega, h4, by rw [hy5, List.length_set, hy4, List.length_set, hy3, List.length_set, hy2, List.length_set]; exact l1, fun j hj => ?_⟩
   rw [hy5, Int.toNat_natCast, mkk_rd69_set _ _ _ _ (by omega), hy4, Int.toNat_natCast, mkk_rd69_set _ _ _ _ (by omega), hy3, Int.toNat_natCast, mkk_rd69_set _ _ _ _ (by omega), hy2, Int.toNat_natCast, mkk_rd69_set _ _ _ _ (by omega), hy1, Int.toNat_natCast, mkk_rd69_set _ _ _ _ (by omega)]
   exact h6 j (by omega)
  obtain ⟨y2, hy2⟩ : ∃ y_ : List S44, y_ = y1.set x.toNat (⟨(rd_T44 y1 x).f0, r2, (rd_T44 y1 x).f2, (rd_T44 y1 x).f3, (rd_T44 y1 x).f4⟩ : S44) := ⟨_, rfl⟩
  obtain ⟨y3, hy3⟩ : ∃ y_ : List S44, y_ = y2.set x.toNat (⟨(rd_T44 y2 x).f0, (rd_T44 y2 x).f1, r1, (rd_T44 y2 x).f3, (rd_T44 y2 x).f4⟩ : S44) := ⟨_, rfl⟩
  obtain ⟨y4, hy4⟩ : ∃ y_ : List S44, y_ = y3.set x.toNat (⟨(rd_T44 y3 x).f0, (rd_T44 y3 x).f1, (rd_T44 y3 x).f2, (wrap64 (r1 + 1)), (rd_T44 y3 x).f4⟩ : S44) := ⟨_, rfl⟩
  obtain ⟨y5, hy5⟩ : ∃ y_ : List S44, y_ = y4.set x.toNat (⟨(rd_T44 y4 x).f0, (rd_T44 y4 x).f1, (rd_T44 y4 x).f2, (rd_T44 y4 x).f3, (wrap64 (wrap64 (r1 + 1) + 1))⟩ : S44) := ⟨_, rfl⟩
  replace HE := As.mk (HE y2 y3 y4 y5 hy2 hy3 hy4 hy5)
  have Ny1 := As.mk hy1
  have Ny2 := As.mk hy2
  have Ny3 := As.mk hy3
  have Ny4 := As.mk hy4
  have Ny5 := As.mk hy5
  clear hy1 hy2 hy3 hy4 hy5 HI HN c3 c0 hmx
  have p0 := eq_true (of_decide_eq_true c0b)
  have q0 := eq_true (of_decide_eq_true c3b0)
  go_wp2_with (first | ((with_reducible refine gate_callee (f := 32) rfl ?_); refine goesL_ (some 15) rfl rfl Try.func32 (by kernel_rfl) rfl #[.int .i64 m] rfl (by (try simp only [lm]); first | done | rfl) ?_; (with_reducible refine (laws_markText.calls kt _ t _ HT.out).mono ?_); rintro e w11 ⟨rfl, hb⟩; refine ⟨_, rfl, ?_⟩; replace HO := As.mk (Kd.S_below (by (with_reducible repeat (first | apply Kd.S_alloc | apply Kd.S_drewN | apply Kd.S_drew)); exact HO.out) hb); replace HK := As.mk (Kept.below (by repeat (first | (with_reducible first | exact HK.out | apply Kept.alloc | apply Kept.drewN | apply Kept.drew) | exact HK.out)) hb); replace HB := As.mk (below_step (be w0) hb); clear hb; obtain ⟨_, ce1, hcl1, hM1, hcc1, hfr1, hput1⟩ := mkk_S_elemF HO.out z44 x (of_decide_eq_true c0b) (of_decide_eq_true c3b0); obtain ⟨v1, rfl, g1⟩ := k44_openM hM1; have hx1 : w11.cell? ⟨go, x.toNat * 5, none⟩ = some (.string (rd_T44 xs x).f0) := hcc1 0 _ rfl; have hf1 : w11.frozen? ⟨go, x.toNat * 5, none⟩ = false := hfr1 0; have HP1 := As.mk (hput1 (seg := [.string t]) (j := 0) (x' := (⟨t, (rd_T44 xs x).f1, (rd_T44 xs x).f2, (rd_T44 xs x).f3, (rd_T44 xs x).f4⟩ : S44)) (show 1 ≤ 5 from by decide) (k44_mkM _ _ _ (⟨t, (rd_T44 xs x).f1, (rd_T44 xs x).f2, (rd_T44 xs x).f3, (rd_T44 xs x).f4⟩ : S44) g1)); clear hcl1 hcc1 hfr1 hM1 hput1 g1) | ((with_reducible refine gate_store (t := 9) (p := 17) rfl ?_); refine store_event (t := 9) (p := 17) (v := ?vo_w12) (w1 := (w11.setCell ⟨go, x.toNat * 5, none⟩ (.string t))) ?hg ?ho ?hn ?hr ?_; (case ho => rfl); (case hg => rfl); (case hn => rfl); (case hr => first | (go_simp; done) | (go_simp; rfl)); intro w12 hw; have hg : w11.grownBy w12 (some go) := (by rw [hw]; exact HP1.out.2); have hp_ : Kd.S k44 44 w12 w0.heap.size P (.slice (some ⟨go, 0, none⟩) xs.length co) y1 := (by rw [hw, Ny1.out]; exact HP1.out.1); clear HP1 hx1 hf1 HO; have HO := As.mk hp_; replace HB := As.mk ((by rw [hw]; exact below_set HB.out GB.out : Below w0.heap.size w0 w12)); replace HK := As.mk (Kept.of_grown hg HK.out (fun k_ e_ => .inl (by injection e_ with e_; rw [← e_]; exact HPg.out))); clear hg hw hp_; obtain ⟨oki, ce4, hcl4, hM4, hcc4, hoki4, hH4⟩ := Kd.S_lend HO.out z44 x (of_decide_eq_true c0b) (of_decide_eq_true c3b0); obtain ⟨v4, rfl, g4⟩ := k44_openM hM4; obtain ⟨A4, c4, e4⟩ := Kd.R_slice g4; subst e4; have hx4 : w12.cell? ⟨go, x.toNat * 5 + 1, none⟩ = some (.slice A4 (rd_T44 y1 x).f1.length c4) := hcc4 1 _ rfl; have G4 := As.mk g4; have HH4 := As.mk hH4; have HO4 := As.mk hoki4; clear hcl4 hcc4 hM4 hH4 hoki4 g4 HO))
  refine (laws_markParamS.calls ki oki _ (rd_T44 y1 x).f1 _ r1 r2 w0 _ (be w0) (by (with_reducible repeat (first | apply Kd.R_alloc | apply Kd.R_drewN | apply Kd.R_drew)); exact G4.out) HR.out).mono ?_
  rintro e w15 ⟨rfl, hr_, hb, hkp⟩
  have hM5 : k44.M w15 w0.heap.size oki (⟨(rd_T44 y1 x).f0, r2, (rd_T44 y1 x).f2, (rd_T44 y1 x).f3, (rd_T44 y1 x).f4⟩ : S44) [.string (rd_T44 y1 x).f0, .slice A4 (rd_T44 y1 x).f1.length c4, .int .i64 (rd_T44 y1 x).f2, .int .i64 (rd_T44 y1 x).f3, .int .i64 (rd_T44 y1 x).f4] := k44_mkM w15 w0.heap.size oki (⟨(rd_T44 y1 x).f0, r2, (rd_T44 y1 x).f2, (rd_T44 y1 x).f3, (rd_T44 y1 x).f4⟩ : S44) (Kd.R_reok rfl hr_ (fun k_ e_ => G4.out.1 k_ e_))
  have hH5 := Kd.H_kept HH4.out hkp (fun _ _ h_ => h_)
  have hO5 := Kd.H_back hH5 hM5 (fun _ h_ => h_)
  rw [← Ny2.out] at hO5
  have HO := As.mk hO5
  clear hM5 hH5 hO5
  replace HB := As.mk hb
  replace HK := As.mk (Kept.then_ (by repeat (first | (with_reducible first | exact HK.out | apply Kept.alloc | apply Kept.drewN | apply Kept.drew) | exact HK.out)) hkp (fun k_ h_ => .inl (HO4.out k_ h_).1))
  clear hr_ hb hkp HH4 G4 HO4
  obtain ⟨_, ce5, hcl5, hM5, hcc5, hfr5, hput5⟩ := mkk_S_elemF HO.out z44 x (of_decide_eq_true c0b) (of_decide_eq_true c3b0)
  obtain ⟨v5, rfl, g5⟩ := k44_openM hM5
  have hx5 : w15.cell? ⟨go, x.toNat * 5 + 2, none⟩ = some (.int .i64 (rd_T44 y2 x).f2) := hcc5 2 _ rfl
  have hf5 : w15.frozen? ⟨go, x.toNat * 5 + 2, none⟩ = false := hfr5 2
  have HP5 := As.mk (hput5 (seg := [.int .i64 r1]) (j := 2) (x' := (⟨(rd_T44 y2 x).f0, (rd_T44 y2 x).f1, r1, (rd_T44 y2 x).f3, (rd_T44 y2 x).f4⟩ : S44)) (show 3 ≤ 5 from by decide) (k44_mkM _ _ _ (⟨(rd_T44 y2 x).f0, (rd_T44 y2 x).f1, r1, (rd_T44 y2 x).f3, (rd_T44 y2 x).f4⟩ : S44) g5))
  clear hcl5 hcc5 hfr5 hM5 hput5 g5
  go_wp2_with (first | ((with_reducible refine gate_store (t := 3) (p := 31) rfl ?_); refine store_event (t := 3) (p := 31) (v := ?vo_w16) (w1 := (w15.setCell ⟨go, x.toNat * 5 + 2, none⟩ (.int .i64 r1))) ?hg ?ho ?hn ?hr ?_; (case ho => rfl); (case hg => rfl); (case hn => rfl); (case hr => first | (go_simp; done) | (go_simp; rfl)); intro w16 hw; have hg : w15.grownBy w16 (some go) := (by rw [hw]; exact HP5.out.2); have hp_ : Kd.S k44 44 w16 w0.heap.size P (.slice (some ⟨go, 0, none⟩) xs.length co) y3 := (by rw [hw, Ny3.out]; exact HP5.out.1); clear HP5 hx5 hf5 HO; have HO := As.mk hp_; replace HB := As.mk ((by rw [hw]; exact below_set HB.out GB.out : Below w0.heap.size w0 w16)); replace HK := As.mk (Kept.of_grown hg HK.out (fun k_ e_ => .inl (by injection e_ with e_; rw [← e_]; exact HPg.out))); clear hg hw hp_; obtain ⟨_, ce6, hcl6, hM6, hcc6, hfr6, hput6⟩ := mkk_S_elemF HO.out z44 x (of_decide_eq_true c0b) (of_decide_eq_true c3b0); obtain ⟨v6, rfl, g6⟩ := k44_openM hM6; have hx6 : w16.cell? ⟨go, x.toNat * 5 + 3, none⟩ = some (.int .i64 (rd_T44 y3 x).f3) := hcc6 3 _ rfl; have hf6 : w16.frozen? ⟨go, x.toNat * 5 + 3, none⟩ = false := hfr6 3; have HP6 := As.mk (hput6 (seg := [.int .i64 (wrap64 (r1 + 1))]) (j := 3) (x' := (⟨(rd_T44 y3 x).f0, (rd_T44 y3 x).f1, (rd_T44 y3 x).f2, (wrap64 (r1 + 1)), (rd_T44 y3 x).f4⟩ : S44)) (show 4 ≤ 5 from by decide) (k44_mkM _ _ _ (⟨(rd_T44 y3 x).f0, (rd_T44 y3 x).f1, (rd_T44 y3 x).f2, (wrap64 (r1 + 1)), (rd_T44 y3 x).f4⟩ : S44) g6)); clear hcl6 hcc6 hfr6 hM6 hput6 g6) | ((with_reducible refine gate_store (t := 3) (p := 38) rfl ?_); refine store_event (t := 3) (p := 38) (v := ?vo_w17) (w1 := (w16.setCell ⟨go, x.toNat * 5 + 3, none⟩ (.int .i64 (wrap64 (r1 + 1))))) ?hg ?ho ?hn ?hr ?_; (case ho => rfl); (case hg => rfl); (case hn => rfl); (case hr => first | (go_simp; done) | (go_simp; rfl)); intro w17 hw; have hg : w16.grownBy w17 (some go) := (by rw [hw]; exact HP6.out.2); have hp_ : Kd.S k44 44 w17 w0.heap.size P (.slice (some ⟨go, 0, none⟩) xs.length co) y4 := (by rw [hw, Ny4.out]; exact HP6.out.1); clear HP6 hx6 hf6 HO; have HO := As.mk hp_; replace HB := As.mk ((by rw [hw]; exact below_set HB.out GB.out : Below w0.heap.size w0 w17)); replace HK := As.mk (Kept.of_grown hg HK.out (fun k_ e_ => .inl (by injection e_ with e_; rw [← e_]; exact HPg.out))); clear hg hw hp_; obtain ⟨_, ce7, hcl7, hM7, hcc7, hfr7, hput7⟩ := mkk_S_elemF HO.out z44 x (of_decide_eq_true c0b) (of_decide_eq_true c3b0); obtain ⟨v7, rfl, g7⟩ := k44_openM hM7; have hx7 : w17.cell? ⟨go, x.toNat * 5 + 4, none⟩ = some (.int .i64 (rd_T44 y4 x).f4) := hcc7 4 _ rfl; have hf7 : w17.frozen? ⟨go, x.toNat * 5 + 4, none⟩ = false := hfr7 4; have HP7 := As.mk (hput7 (seg := [.int .i64 (wrap64 (wrap64 (r1 + 1) + 1))]) (j := 4) (x' := (⟨(rd_T44 y4 x).f0, (rd_T44 y4 x).f1, (rd_T44 y4 x).f2, (rd_T44 y4 x).f3, (wrap64 (wrap64 (r1 + 1) + 1))⟩ : S44)) (show 5 ≤ 5 from by decide) (k44_mkM _ _ _ (⟨(rd_T44 y4 x).f0, (rd_T44 y4 x).f1, (rd_T44 y4 x).f2, (rd_T44 y4 x).f3, (wrap64 (wrap64 (r1 + 1) + 1))⟩ : S44) g7)); clear hcl7 hcc7 hfr7 hM7 hput7 g7) | ((with_reducible refine gate_store (t := 3) (p := 45) rfl ?_); refine store_event (t := 3) (p := 45) (v := ?vo_w18) (w1 := (w17.setCell ⟨go, x.toNat * 5 + 4, none⟩ (.int .i64 (wrap64 (wrap64 (r1 + 1) + 1))))) ?hg ?ho ?hn ?hr ?_; (case ho => rfl); (case hg => rfl); (case hn => rfl); (case hr => first | (go_simp; done) | (go_simp; rfl)); intro w18 hw; have hg : w17.grownBy w18 (some go) := (by rw [hw]; exact HP7.out.2); have hp_ : Kd.S k44 44 w18 w0.heap.size P (.slice (some ⟨go, 0, none⟩) xs.length co) y5 := (by rw [hw, Ny5.out]; exact HP7.out.1); clear HP7 hx7 hf7 HO; have HO := As.mk hp_; replace HB := As.mk ((by rw [hw]; exact below_set HB.out GB.out : Below w0.heap.size w0 w18)); replace HK := As.mk (Kept.of_grown hg HK.out (fun k_ e_ => .inl (by injection e_ with e_; rw [← e_]; exact HPg.out))); clear hg hw hp_))
  go_roundg (gk - 1)
  case measure => obtain ⟨i, _, _, h_, _⟩ := HE.out; omega
  case rel =>
   obtain ⟨i, h1, h2, h3, h4, h5, h6, h7, h8, h9⟩ := HE.out
   exact ⟨_, wrap64 (x + 1), _, rfl, rfl, ⟨i, h1, h2, h4, h5, h6, h7, h8, h9⟩, ⟨by (with_reducible repeat (first | apply Kd.S_alloc | apply Kd.S_drewN | apply Kd.S_drew)); exact HO.out⟩, ⟨by repeat (first | (with_reducible first | exact HK.out | apply Kept.alloc | apply Kept.drewN | apply Kept.drew) | exact HK.out)⟩, ⟨be w0⟩⟩

/-! markProgram -/
theorem mkk_tyne {k base base2 : Nat} {es es2 : List Nat} {p p2 : Prop} {W : World} (h : p ∧ base ≤ k ∧ k < W.heap.size ∧ ∃ q, q ∈ es ∧ ∃ cells, W.heap[k]? = some (.cells cells q (0, 0))) (h2 : p2 ∧ base2 ≤ k ∧ k < W.heap.size ∧ ∃ q, q ∈ es2 ∧ ∃ cells, W.heap[k]? = some (.cells cells q (0, 0))) (hd : ∀ q, q ∈ es → q ∉ es2) : False := by
  obtain ⟨_, _, _, q, hq, c, hc⟩ := h
  obtain ⟨_, _, _, q2, hq2, c2, hc2⟩ := h2
  rw [hc] at hc2
  injection hc2 with hc2
  injection hc2 with _ e _
  subst e
  exact hd q hq hq2
/-! for the law's text -/
theorem mkk_tyb {k base : Nat} {es : List Nat} {p : Prop} {W : World} (h : p ∧ base ≤ k ∧ k < W.heap.size ∧ ∃ q, q ∈ es ∧ ∃ cells, W.heap[k]? = some (.cells cells q (0, 0))) {t : Nat} {cells2 : Array Value} (h2 : W.heap[k]? = some (.cells cells2 t (0, 0))) (hd : ∀ q, q ∈ es → q ≠ t) : False := by
  obtain ⟨_, _, _, q, hq, c, hc⟩ := h
  rw [hc] at h2
  injection h2 with h2
  injection h2 with _ e _
  exact hd q hq e
theorem mkk_tyr {k base : Nat} {es : List Nat} {p : Prop} {W : World} (h : p ∧ base ≤ k ∧ k < W.heap.size ∧ ∃ q, q ∈ es ∧ ∃ cells, W.heap[k]? = some (.cells cells q (0, 0))) {t : Nat} (h2 : ∃ cells2, W.heap[k]? = some (.cells cells2 t (0, 0))) (hd : ∀ q, q ∈ es → q ≠ t) : False := by
  obtain ⟨c2, h2⟩ := h2
  exact mkk_tyb h h2 hd
theorem mkk_keptT {α : Type} {d : Kd α} {e base : Nat} {ok S : Nat → Prop} {W W2 : World} {v : Value} {xs : List α} (hE : d.E = []) (h : d.R e W base ok v xs) (hk : Kept W W2 S) (hne : ∀ k, S k → some k = v.ownBlock → False) : d.R e W2 base ok v xs :=
  Kd.R_mono (Kd.R_kept (Kd.R_tight hE h) hk (fun k e_ hs => hne k hs e_)) (fun k hk => h.1 k hk.symm)

/-! ### by hand: what the marking functions leave -/
def mk_ints : Int → Nat → List Int
  | _, 0 => []
  | a, n + 1 => a :: mk_ints (a + 1) n
theorem mks_markText_l0 : ∀ (n : Nat) (a : Int) (s : ByteArray), a < 10 ^ n → s.size + n < 1000 → ∃ t, laws_markText.l0 (n + 1) a s = some t
  | 0, a, s, h, hs => ⟨_, by rw [laws_markText.l0, if_neg (by omega), if_pos (by omega)]⟩
  | n + 1, a, s, h, hs => by
    by_cases c : a > 0
    · have hz : (strOfNums [(wrap64 (48 + (Int.tmod a 10))) % 256]).size = 1 := rfl
      have e1 : Int.tdiv a 10 = a / 10 := Int.tdiv_eq_ediv_of_nonneg (by omega)
      obtain ⟨t, e⟩ := mks_markText_l0 n (wrap64 (a / 10)) (strOfNums [(wrap64 (48 + (Int.tmod a 10))) % 256] ++ s) (by
          have h9 : wrap64 (a / 10) ≤ a / 10 := by unfold wrap64; omega
          have : (10 : Int) ^ (n + 1) = 10 ^ n * 10 := by rw [Int.pow_succ]
          omega) (by rw [ByteArray.size_append, hz]; omega)
      exact ⟨t, by rw [laws_markText.l0, if_pos c, Option.bind_some, if_pos (by rw [hz]; omega), e1]; exact e⟩
    · exact ⟨_, by rw [laws_markText.l0, if_neg c, if_pos (by omega)]⟩
def mk_text (a : Int) : ByteArray := (laws_markText.f 21 a).getD ⟨#[]⟩
theorem mk_text_some (a : Int) (h : a < 4611686018427387904) : laws_markText.f 21 a = some (mk_text a) := by
  have h1 : ∃ t, laws_markText.f 21 a = some t := by
    by_cases c : a ≤ 0
    · exact ⟨_, by rw [laws_markText.f, if_pos c]⟩
    · have h2 : a < 10 ^ 20 := by
        have : (10 : Int) ^ 20 = 100000000000000000000 := by decide
        omega
      obtain ⟨t, e⟩ := mks_markText_l0 20 a ⟨#[]⟩ h2 (by decide)
      exact ⟨t, by rw [laws_markText.f, if_neg c]; exact e⟩
  obtain ⟨t, e⟩ := h1
  rw [mk_text, e]
  rfl
theorem mk_ints_len : ∀ (n : Nat) (a : Int), (mk_ints a n).length = n
  | 0, _ => rfl
  | n + 1, a => by rw [mk_ints, List.length_cons, mk_ints_len n]
theorem mks_markInts_l0 : ∀ (d i : Nat) (xs : List Int) (a : Int), i + d = xs.length → xs.length < 4611686018427387904 → 0 ≤ a → a + d < 4611686018427387904 → ∃ k, laws_markIntS.l0 k xs a (i : Int) = some (a + d, xs.take i ++ mk_ints a d)
  | 0, i, xs, a, h, hl, h0, h1 => ⟨1, by rw [laws_markIntS.l0, if_neg (by omega), List.take_of_length_le (by omega)]; simp [mk_ints]⟩
  | d + 1, i, xs, a, h, hl, h0, h1 => by
    obtain ⟨k, e⟩ := mks_markInts_l0 d (i + 1) (xs.set i a) (a + 1) (by rw [List.length_set]; omega) (by rw [List.length_set]; exact hl) (by omega) (by omega)
    refine ⟨k + 1, ?_⟩
    rw [laws_markIntS.l0, if_pos (by omega), if_pos (by omega), mkk_wS h0 (by omega), mkk_wS (by omega) (by omega), Int.toNat_natCast]
    rw [show ((i : Int) + 1) = ((i + 1 : Nat) : Int) by omega, e]
    have e2 : (xs.set i a).take (i + 1) = xs.take i ++ [a] := by
      rw [List.take_add_one, List.take_set_of_le (Nat.le_refl i), List.getElem?_set_self (by omega)]
      rfl
    rw [e2, mk_ints, List.append_assoc]
    congr 2
    omega
theorem mks_markInts (xs : List Int) (a : Int) (hl : xs.length < 4611686018427387904) (h0 : 0 ≤ a) (h1 : a + xs.length < 4611686018427387904) : ∃ k, laws_markIntS.f k xs a = some (a + xs.length, mk_ints a xs.length) := by
  obtain ⟨k, e⟩ := mks_markInts_l0 xs.length 0 xs a (by omega) hl h0 h1
  exact ⟨k, e⟩
def mk_nodes : Int → List S64 → List S64
  | _, [] => []
  | a, x :: r => ⟨a, a + 1, mk_text (a + 2), mk_ints (a + 3) x.f3.length⟩ :: mk_nodes (a + ((3 + x.f3.length : Nat) : Int)) r
theorem mk_nodes_len : ∀ (l : List S64) (a : Int), (mk_nodes a l).length = l.length
  | [], _ => rfl
  | x :: r, a => by rw [mk_nodes, List.length_cons, List.length_cons, mk_nodes_len r]
theorem mk_nodes_at : ∀ (l : List S64) (a : Int) (i : Nat) (m : Int), i < l.length → m + (mkk_nodesSum (l.drop i) : Nat) = a + (mkk_nodesSum l : Nat) → rd_T64 (mk_nodes a l) (i : Int) = ⟨m, m + 1, mk_text (m + 2), mk_ints (m + 3) (rd_T64 l (i : Int)).f3.length⟩
  | [], a, i, m, h, e => absurd h (Nat.not_lt_zero i)
  | x :: r, a, 0, m, h, e => by
    have e2 : m = a := by rw [List.drop_zero] at e; omega
    subst e2
    rfl
  | x :: r, a, i + 1, m, h, e => by
    have h2 := mk_nodes_at r (a + ((3 + x.f3.length : Nat) : Int)) i m (Nat.lt_of_succ_lt_succ h) (by rw [List.drop_succ_cons, mkk_nodesSum] at e; omega)
    rw [mk_nodes]
    unfold rd_T64 at h2 ⊢
    rw [Int.toNat_natCast] at h2 ⊢
    rw [List.getD_cons_succ, List.getD_cons_succ]
    exact h2
theorem mk_nodes_ext (xs ys : List S64) (hl : xs.length = ys.length) (h : ∀ j : Nat, j < ys.length → rd_T64 xs (j : Int) = rd_T64 ys (j : Int)) : xs = ys := by
  refine List.ext_getElem hl (fun j h1 h2 => ?_)
  have := h j h2
  rwa [mkk_rd52 xs j h1, mkk_rd52 ys j h2] at this
set_option maxHeartbeats 8000000 in
set_option maxRecDepth 100000 in
theorem mks_markNodeS.calls (P : Nat → Prop) (u : Value) (l : List S64) (a : Int) (w0 w : World) (hB : Below w0.heap.size w0 w) (ho : Kd.S k64 64 w w0.heap.size P u l) (ha : 0 ≤ a) (hs : a + (mkk_nodesSum l : Nat) < 4611686018427387904) :
    Calls Try.prog 20 #[u, .int .i64 a] w fun e w' => e = .returned (.int .i64 (a + (mkk_nodesSum l : Nat))) ∧ Kd.S k64 64 w' w0.heap.size P u (mk_nodes a l) ∧ Below w0.heap.size w0 w' ∧ Kept w w' P := by
 have HO0 := As.mk ho
 have HK := As.mk (Kept.refl w P)
 have HB := As.mk hB
 clear hB ho
 obtain ⟨b, hb⟩ : ∃ b : Int, b = a + (mkk_nodesSum l : Nat) := ⟨_, rfl⟩
 rw [← hb] at hs ⊢
 obtain ⟨M, hM⟩ : ∃ M, M = mk_nodes a l := ⟨_, rfl⟩
 rw [← hM]
 have MAT := As.mk (show ∀ (i : Nat) (m : Int), i < l.length → m + (mkk_nodesSum (l.drop i) : Nat) = b → rd_T64 M (i : Int) = ⟨m, m + 1, mk_text (m + 2), mk_ints (m + 3) (rd_T64 l (i : Int)).f3.length⟩ by rw [hM, hb]; exact mk_nodes_at l a)
 have MLEN := As.mk (show M.length = l.length by rw [hM]; exact mk_nodes_len l a)
 clear hM
 have H0 := As.mk (show ((0 : Nat) ≤ l.length ∧ a + (mkk_nodesSum (l.drop 0) : Nat) = b ∧ 0 ≤ a ∧ b < 4611686018427387904) from ⟨Nat.zero_le _, by rw [List.drop_zero]; exact hb.symm, ha, hs⟩)
 clear hb hs ha
 go_enter Try.func20, Try.ntmps20
 go_wp2
 go_loopg [1, 5] (l.length + 1) (fun kq v1 v5 w' => ∃ (m x : Int) (xs : List S64), v1 = .int .i64 m ∧ v5 = .int .i64 x ∧ As (∃ i : Nat, x = (i : Int) ∧ i + kq = l.length + 1 ∧ i ≤ l.length ∧ m + (mkk_nodesSum (l.drop i) : Nat) = b ∧ 0 ≤ m ∧ b < 4611686018427387904 ∧ xs.length = l.length ∧ (∀ j : Nat, i ≤ j → rd_T64 xs (j : Int) = rd_T64 l (j : Int)) ∧ ∀ j : Nat, j < i → rd_T64 xs (j : Int) = rd_T64 M (j : Int)) ∧ As (Kd.S k64 64 w' w0.heap.size P u xs) ∧ As (Kept w w' P) ∧ As (Below w0.heap.size w0 w'))
 case atStart => exact ⟨a, 0, l, rfl, rfl, ⟨0, rfl, by omega, H0.out.1, H0.out.2.1, H0.out.2.2.1, H0.out.2.2.2, rfl, fun _ _ => rfl, fun j h => absurd h (Nat.not_lt_zero j)⟩, ⟨by (with_reducible repeat (first | apply Kd.S_alloc | apply Kd.S_drewN | apply Kd.S_drew)); exact HO0.out⟩, ⟨by repeat (first | (with_reducible first | exact HK.out | apply Kept.alloc | apply Kept.drewN | apply Kept.drew) | exact HK.out)⟩, ⟨be w0⟩⟩
 case round =>
  clear H0 HO0
  obtain ⟨m, x, xs, rfl, rfl, HI, HO, HK, HB⟩ := hrel
  by_cases c3 : x < (xs.length : Int)
  rotate_left
  ·
   have c3b0 : decide (x < (xs.length : Int)) = false := decide_eq_false c3
   obtain ⟨Ao, co, eo⟩ := Kd.S_slice HO.out
   subst eo
   have hm : m = b := by
    obtain ⟨i, rfl, h0, h1, h2, h3, h4, h5, h6⟩ := HI.out
    rw [List.drop_eq_nil_of_le (by omega)] at h2
    simp only [mkk_nodesSum] at h2
    omega
   have HXS := As.mk (show xs = M by
    obtain ⟨i, rfl, h0, h1, h2, h3, h4, h5, h6⟩ := HI.out
    exact mk_nodes_ext xs M (h5.trans MLEN.out.symm) (fun j hj => h6.2 j (by have := MLEN.out; omega)))
   subst hm
   go_wp2
   go_ret
   exact ⟨rfl, by rw [← HXS.out]; (with_reducible repeat (first | apply Kd.S_alloc | apply Kd.S_drewN | apply Kd.S_drew)); exact HO.out, be w0, by repeat (first | (with_reducible first | exact HK.out | apply Kept.alloc | apply Kept.drewN | apply Kept.drew) | exact HK.out)⟩
  have c3b0 : decide (x < (xs.length : Int)) = true := decide_eq_true c3
  have hmx : xs.length ≤ 9223372036854775807 := by
   obtain ⟨Ao, co, eo⟩ := Kd.S_slice HO.out
   exact Kd.F_max (Kd.S_F (eo ▸ HO.out))
  have c0 : 0 ≤ x := by obtain ⟨i, rfl, _⟩ := HI.out; omega
  have c0b : decide (0 ≤ x) = true := decide_eq_true c0
  obtain ⟨Ao, co, eo⟩ := Kd.S_slice HO.out
  subst eo
  obtain ⟨go, co5, eo5, gb5, gl5, cl5, HG5⟩ := Kd.S_form HO.out (by omega)
  cases eo5
  have GB := As.mk gb5
  clear gb5 gl5 HG5
  have HPg := As.mk (show P go from (Kd.S_R HO.out).1 _ rfl)
  obtain ⟨y1, hy1⟩ : ∃ y_ : List S64, y_ = xs.set x.toNat (⟨m, (rd_T64 xs x).f1, (rd_T64 xs x).f2, (rd_T64 xs x).f3⟩ : S64) := ⟨_, rfl⟩
  obtain ⟨y2, hy2⟩ : ∃ y_ : List S64, y_ = y1.set x.toNat (⟨(rd_T64 y1 x).f0, wrap64 (m + 1), (rd_T64 y1 x).f2, (rd_T64 y1 x).f3⟩ : S64) := ⟨_, rfl⟩
  obtain ⟨kt, t, HT, HN, HTE, HM1⟩ : ∃ kt t, As (laws_markText.f kt (wrap64 (wrap64 (m + 1) + 1)) = some t) ∧ wrap64 (wrap64 (wrap64 (m + 1) + 1) + 1) = m + 3 ∧ t = mk_text (m + 2) ∧ wrap64 (m + 1) = m + 1 := by
   obtain ⟨i, rfl, h0, h1, h2, h3, h4, h5, h6⟩ := HI.out
   have h7 := mkk_nodesSum_drop l i (by omega)
   have e1 := mkk_wS h3 (by omega)
   have e2 := mkk_wS (m := m + 1) (by omega) (by omega)
   have e3 := mkk_wS (m := m + 1 + 1) (by omega) (by omega)
   rw [e1, e2, e3]
   exact ⟨21, _, ⟨mk_text_some (m + 1 + 1) (by omega)⟩, by omega, by congr 1; omega, rfl⟩
  obtain ⟨y3, hy3⟩ : ∃ y_ : List S64, y_ = y2.set x.toNat (⟨(rd_T64 y2 x).f0, (rd_T64 y2 x).f1, t, (rd_T64 y2 x).f3⟩ : S64) := ⟨_, rfl⟩
  obtain ⟨ki, r1, r2, HR, HE⟩ : ∃ ki r1 r2, As (laws_markIntS.f ki (rd_T64 y3 x).f3 (wrap64 (wrap64 (wrap64 (m + 1) + 1) + 1)) = some (r1, r2)) ∧ As (∃ i : Nat, wrap64 (x + 1) = (i : Int) ∧ i + (gk - 1) = l.length + 1 ∧ 1 ≤ gk ∧ i ≤ l.length ∧ r1 + (mkk_nodesSum (l.drop i) : Nat) = b ∧ 0 ≤ r1 ∧ b < 4611686018427387904 ∧ (y3.set x.toNat (⟨(rd_T64 y3 x).f0, (rd_T64 y3 x).f1, (rd_T64 y3 x).f2, r2⟩ : S64)).length = l.length ∧ (∀ j : Nat, i ≤ j → rd_T64 (y3.set x.toNat (⟨(rd_T64 y3 x).f0, (rd_T64 y3 x).f1, (rd_T64 y3 x).f2, r2⟩ : S64)) (j : Int) = rd_T64 l (j : Int)) ∧ ∀ j : Nat, j < i → rd_T64 (y3.set x.toNat (⟨(rd_T64 y3 x).f0, (rd_T64 y3 x).f1, (rd_T64 y3 x).f2, r2⟩ : S64)) (j : Int) = rd_T64 M (j : Int)) := by
   rw [HN]
   obtain ⟨i, rfl, h0, h1, h2, h3, h4, h5, h6⟩ := HI.out
   have hi : i < l.length := by omega
   have h7 := mkk_nodesSum_drop l i hi
   have l1 : y1.length = l.length := by rw [hy1, List.length_set]; exact h5
   have l2 : y2.length = l.length := by rw [hy2, List.length_set]; exact l1
   have l3 : y3.length = l.length := by rw [hy3, List.length_set]; exact l2
   have e0 : rd_T64 y3 (i : Int) = ⟨m, m + 1, mk_text (m + 2), (rd_T64 xs (i : Int)).f3⟩ := by
    have E1 : rd_T64 y1 (i : Int) = ⟨m, (rd_T64 xs (i : Int)).f1, (rd_T64 xs (i : Int)).f2, (rd_T64 xs (i : Int)).f3⟩ := by rw [hy1, Int.toNat_natCast, mkk_rd52_at _ _ _ (by omega)]
    have E2 : rd_T64 y2 (i : Int) = ⟨m, m + 1, (rd_T64 xs (i : Int)).f2, (rd_T64 xs (i : Int)).f3⟩ := by rw [hy2, Int.toNat_natCast, mkk_rd52_at _ _ _ (by omega), E1, HM1]
    rw [hy3, Int.toNat_natCast, mkk_rd52_at _ _ _ (by omega), E2, HTE]
   have e1 : (rd_T64 y3 (i : Int)).f3 = (rd_T64 l (i : Int)).f3 := by rw [e0]; show (rd_T64 xs (i : Int)).f3 = _; exact congrArg S64.f3 (h6.1 i (Nat.le_refl _))
   obtain ⟨ki, h8⟩ := mks_markInts (rd_T64 y3 (i : Int)).f3 (m + 3) (by rw [e1]; omega) (by omega) (by rw [e1]; omega)
   refine ⟨ki, _, _, ⟨h8⟩, i + 1, by unfold wrap64; omega, by omega, by omega, by omega, by rw [e1]; omega, by omega, h4, by rw [List.length_set]; exact l3, fun j hj => ?_, fun j hj => ?_⟩
   · rw [Int.toNat_natCast, mkk_rd52_set _ _ _ _ (by omega), hy3, Int.toNat_natCast, mkk_rd52_set _ _ _ _ (by omega), hy2, Int.toNat_natCast, mkk_rd52_set _ _ _ _ (by omega), hy1, Int.toNat_natCast, mkk_rd52_set _ _ _ _ (by omega)]
     exact h6.1 j (by omega)
   · by_cases hji : j = i
     · subst hji
       rw [Int.toNat_natCast, mkk_rd52_at _ _ _ (by omega), MAT.out j m hi h2, e1, e0]
     · rw [Int.toNat_natCast, mkk_rd52_set _ _ _ _ (by omega), hy3, Int.toNat_natCast, mkk_rd52_set _ _ _ _ (by omega), hy2, Int.toNat_natCast, mkk_rd52_set _ _ _ _ (by omega), hy1, Int.toNat_natCast, mkk_rd52_set _ _ _ _ (by omega)]
       exact h6.2 j (by omega)
  have Ny1 := As.mk hy1
  have Ny2 := As.mk hy2
  have Ny3 := As.mk hy3
  clear hy1 hy2 hy3 HI HN HTE HM1 c3 c0 hmx
  have p0 := eq_true (of_decide_eq_true c0b)
  have q0 := eq_true (of_decide_eq_true c3b0)
  obtain ⟨_, ce1, hcl1, hM1, hcc1, hfr1, hput1⟩ := mkk_S_elemF HO.out z64 x (of_decide_eq_true c0b) (of_decide_eq_true c3b0)
  obtain ⟨v1, rfl, g1⟩ := k64_openM hM1
  have hx1 : wr.cell? ⟨go, x.toNat * 4, none⟩ = some (.int .i64 (rd_T64 xs x).f0) := hcc1 0 _ rfl
  have hf1 : wr.frozen? ⟨go, x.toNat * 4, none⟩ = false := hfr1 0
  have HP1 := As.mk (hput1 (seg := [.int .i64 m]) (j := 0) (x' := (⟨m, (rd_T64 xs x).f1, (rd_T64 xs x).f2, (rd_T64 xs x).f3⟩ : S64)) (show 1 ≤ 4 from by decide) (k64_mkM _ _ _ (⟨m, (rd_T64 xs x).f1, (rd_T64 xs x).f2, (rd_T64 xs x).f3⟩ : S64) g1))
  clear hcl1 hcc1 hfr1 hM1 hput1 g1
  go_wp2_with (first | ((with_reducible refine gate_store (t := 3) (p := 16) rfl ?_); refine store_event (t := 3) (p := 16) (v := ?vo_w11) (w1 := (wr.setCell ⟨go, x.toNat * 4, none⟩ (.int .i64 m))) ?hg ?ho ?hn ?hr ?_; (case ho => rfl); (case hg => rfl); (case hn => rfl); (case hr => first | (go_simp; done) | (go_simp; rfl)); intro w11 hw; have hg : wr.grownBy w11 (some go) := (by rw [hw]; exact HP1.out.2); have hp_ : Kd.S k64 64 w11 w0.heap.size P (.slice (some ⟨go, 0, none⟩) xs.length co) y1 := (by rw [hw, Ny1.out]; exact HP1.out.1); clear HP1 hx1 hf1 HO; have HO := As.mk hp_; replace HB := As.mk ((by rw [hw]; exact below_set HB.out GB.out : Below w0.heap.size w0 w11)); replace HK := As.mk (Kept.of_grown hg HK.out (fun k_ e_ => .inl (by injection e_ with e_; rw [← e_]; exact HPg.out))); clear hg hw hp_; obtain ⟨_, ce2, hcl2, hM2, hcc2, hfr2, hput2⟩ := mkk_S_elemF HO.out z64 x (of_decide_eq_true c0b) (of_decide_eq_true c3b0); obtain ⟨v2, rfl, g2⟩ := k64_openM hM2; have hx2 : w11.cell? ⟨go, x.toNat * 4 + 1, none⟩ = some (.int .i64 (rd_T64 y1 x).f1) := hcc2 1 _ rfl; have hf2 : w11.frozen? ⟨go, x.toNat * 4 + 1, none⟩ = false := hfr2 1; have HP2 := As.mk (hput2 (seg := [.int .i64 (wrap64 (m + 1))]) (j := 1) (x' := (⟨(rd_T64 y1 x).f0, wrap64 (m + 1), (rd_T64 y1 x).f2, (rd_T64 y1 x).f3⟩ : S64)) (show 2 ≤ 4 from by decide) (k64_mkM _ _ _ (⟨(rd_T64 y1 x).f0, wrap64 (m + 1), (rd_T64 y1 x).f2, (rd_T64 y1 x).f3⟩ : S64) g2)); clear hcl2 hcc2 hfr2 hM2 hput2 g2) | ((with_reducible refine gate_store (t := 3) (p := 23) rfl ?_); refine store_event (t := 3) (p := 23) (v := ?vo_w12) (w1 := (w11.setCell ⟨go, x.toNat * 4 + 1, none⟩ (.int .i64 (wrap64 (m + 1))))) ?hg ?ho ?hn ?hr ?_; (case ho => rfl); (case hg => rfl); (case hn => rfl); (case hr => first | (go_simp; done) | (go_simp; rfl)); intro w12 hw; have hg : w11.grownBy w12 (some go) := (by rw [hw]; exact HP2.out.2); have hp_ : Kd.S k64 64 w12 w0.heap.size P (.slice (some ⟨go, 0, none⟩) xs.length co) y2 := (by rw [hw, Ny2.out]; exact HP2.out.1); clear HP2 hx2 hf2 HO; have HO := As.mk hp_; replace HB := As.mk ((by rw [hw]; exact below_set HB.out GB.out : Below w0.heap.size w0 w12)); replace HK := As.mk (Kept.of_grown hg HK.out (fun k_ e_ => .inl (by injection e_ with e_; rw [← e_]; exact HPg.out))); clear hg hw hp_) | ((with_reducible refine gate_callee (f := 32) rfl ?_); refine goesL_ (some 29) rfl rfl Try.func32 (by kernel_rfl) rfl #[.int .i64 (wrap64 (wrap64 (m + 1) + 1))] rfl (by (try simp only [lm]); first | done | rfl) ?_; (with_reducible refine (laws_markText.calls kt _ t _ HT.out).mono ?_); rintro e w13 ⟨rfl, hb⟩; refine ⟨_, rfl, ?_⟩; replace HO := As.mk (Kd.S_below (by (with_reducible repeat (first | apply Kd.S_alloc | apply Kd.S_drewN | apply Kd.S_drew)); exact HO.out) hb); replace HK := As.mk (Kept.below (by repeat (first | (with_reducible first | exact HK.out | apply Kept.alloc | apply Kept.drewN | apply Kept.drew) | exact HK.out)) hb); replace HB := As.mk (below_step (be w0) hb); clear hb; obtain ⟨_, ce3, hcl3, hM3, hcc3, hfr3, hput3⟩ := mkk_S_elemF HO.out z64 x (of_decide_eq_true c0b) (of_decide_eq_true c3b0); obtain ⟨v3, rfl, g3⟩ := k64_openM hM3; have hx3 : w13.cell? ⟨go, x.toNat * 4 + 2, none⟩ = some (.string (rd_T64 y2 x).f2) := hcc3 2 _ rfl; have hf3 : w13.frozen? ⟨go, x.toNat * 4 + 2, none⟩ = false := hfr3 2; have HP3 := As.mk (hput3 (seg := [.string t]) (j := 2) (x' := (⟨(rd_T64 y2 x).f0, (rd_T64 y2 x).f1, t, (rd_T64 y2 x).f3⟩ : S64)) (show 3 ≤ 4 from by decide) (k64_mkM _ _ _ (⟨(rd_T64 y2 x).f0, (rd_T64 y2 x).f1, t, (rd_T64 y2 x).f3⟩ : S64) g3)); clear hcl3 hcc3 hfr3 hM3 hput3 g3) | ((with_reducible refine gate_store (t := 9) (p := 31) rfl ?_); refine store_event (t := 9) (p := 31) (v := ?vo_w14) (w1 := (w13.setCell ⟨go, x.toNat * 4 + 2, none⟩ (.string t))) ?hg ?ho ?hn ?hr ?_; (case ho => rfl); (case hg => rfl); (case hn => rfl); (case hr => first | (go_simp; done) | (go_simp; rfl)); intro w14 hw; have hg : w13.grownBy w14 (some go) := (by rw [hw]; exact HP3.out.2); have hp_ : Kd.S k64 64 w14 w0.heap.size P (.slice (some ⟨go, 0, none⟩) xs.length co) y3 := (by rw [hw, Ny3.out]; exact HP3.out.1); clear HP3 hx3 hf3 HO; have HO := As.mk hp_; replace HB := As.mk ((by rw [hw]; exact below_set HB.out GB.out : Below w0.heap.size w0 w14)); replace HK := As.mk (Kept.of_grown hg HK.out (fun k_ e_ => .inl (by injection e_ with e_; rw [← e_]; exact HPg.out))); clear hg hw hp_; obtain ⟨oki, ce4, hcl4, hM4, hcc4, hoki4, hH4⟩ := Kd.S_lend HO.out z64 x (of_decide_eq_true c0b) (of_decide_eq_true c3b0); obtain ⟨v4, rfl, g4⟩ := k64_openM hM4; obtain ⟨A4, c4, e4⟩ := Kd.R_slice g4; subst e4; have hx4 : w14.cell? ⟨go, x.toNat * 4 + 3, none⟩ = some (.slice A4 (rd_T64 y3 x).f3.length c4) := hcc4 3 _ rfl; have G4 := As.mk g4; have HH4 := As.mk hH4; have HO4 := As.mk hoki4; clear hcl4 hcc4 hM4 hH4 hoki4 g4 HO))
  refine (laws_markIntS.calls ki oki _ (rd_T64 y3 x).f3 _ r1 r2 w0 _ (be w0) (by (with_reducible repeat (first | apply Kd.R_alloc | apply Kd.R_drewN | apply Kd.R_drew)); exact G4.out) HR.out).mono ?_
  rintro e w15 ⟨rfl, hr_, hb, hkp⟩
  have hM5 : k64.M w15 w0.heap.size oki (⟨(rd_T64 y3 x).f0, (rd_T64 y3 x).f1, (rd_T64 y3 x).f2, r2⟩ : S64) [.int .i64 (rd_T64 y3 x).f0, .int .i64 (rd_T64 y3 x).f1, .string (rd_T64 y3 x).f2, .slice A4 (rd_T64 y3 x).f3.length c4] := k64_mkM w15 w0.heap.size oki (⟨(rd_T64 y3 x).f0, (rd_T64 y3 x).f1, (rd_T64 y3 x).f2, r2⟩ : S64) (Kd.R_reok rfl hr_ (fun k_ e_ => G4.out.1 k_ e_))
  have hH5 := Kd.H_kept HH4.out hkp (fun _ _ h_ => h_)
  have HO := As.mk (Kd.H_back hH5 hM5 (fun _ h_ => h_))
  clear hM5 hH5
  replace HB := As.mk hb
  replace HK := As.mk (Kept.then_ (by repeat (first | (with_reducible first | exact HK.out | apply Kept.alloc | apply Kept.drewN | apply Kept.drew) | exact HK.out)) hkp (fun k_ h_ => .inl (HO4.out k_ h_).1))
  clear hr_ hb hkp HH4 G4 HO4
  go_wp2
  go_roundg (gk - 1)
  case measure => obtain ⟨i, _, _, h_, _⟩ := HE.out; omega
  case rel =>
   obtain ⟨i, h1, h2, h3, h4, h5, h6, h7, h8, h9⟩ := HE.out
   exact ⟨r1, wrap64 (x + 1), _, rfl, rfl, ⟨i, h1, h2, h4, h5, h6, h7, h8, h9⟩, ⟨by (with_reducible repeat (first | apply Kd.S_alloc | apply Kd.S_drewN | apply Kd.S_drew)); exact HO.out⟩, ⟨by repeat (first | (with_reducible first | exact HK.out | apply Kept.alloc | apply Kept.drewN | apply Kept.drew) | exact HK.out)⟩, ⟨be w0⟩⟩
def laws_markNodeS.f (l : List S64) (a : Int) : Option (Int × List S64) := if 0 ≤ a ∧ a + (mkk_nodesSum l : Nat) < 4611686018427387904 then some (a + (mkk_nodesSum l : Nat), mk_nodes a l) else none
theorem laws_markNodeS.calls (P : Nat → Prop) (u : Value) (l : List S64) (a r1 : Int) (r2 : List S64) (w0 w : World) (hB : Below w0.heap.size w0 w) (ho : Kd.S k64 64 w w0.heap.size P u l) (h : laws_markNodeS.f l a = some (r1, r2)) :
    Calls Try.prog 20 #[u, .int .i64 a] w fun e w' => e = .returned (.int .i64 r1) ∧ Kd.S k64 64 w' w0.heap.size P u r2 ∧ Below w0.heap.size w0 w' ∧ Kept w w' P := by
  unfold laws_markNodeS.f at h
  by_cases c : 0 ≤ a ∧ a + (mkk_nodesSum l : Nat) < 4611686018427387904
  · rw [if_pos c] at h
    simp only [Option.some.injEq, Prod.mk.injEq] at h
    obtain ⟨rfl, rfl⟩ := h
    exact mks_markNodeS.calls P u l a w0 w hB ho c.1 c.2
  · rw [if_neg c] at h
    cases h

/-! ### by hand: what markFnS leaves -/
theorem mk_text_ev (a : Int) (h : a < 4611686018427387904) (k : Nat) (hk : 21 ≤ k) : laws_markText.f k a = some (mk_text a) := by
  have := mkk_le_ev (F := fun k => laws_markText.f k a) (laws_markText.mono a) (mk_text_some a h) (k - 21)
  try dsimp only at this
  rwa [show 21 + (k - 21) = k by omega] at this
def mk_params : Int → Nat → List S80
  | _, 0 => []
  | a, n + 1 => ⟨mk_text a, a + 1⟩ :: mk_params (a + 2) n
theorem mk_params_len : ∀ (n : Nat) (a : Int), (mk_params a n).length = n
  | 0, _ => rfl
  | n + 1, a => by rw [mk_params, List.length_cons, mk_params_len n]
theorem mks_rd84_at (xs : List S80) (i : Nat) (x : S80) (h : i < xs.length) : rd_T80 (xs.set i x) (i : Int) = x := by
  unfold rd_T80
  rw [Int.toNat_natCast, List.getD_eq_getElem?_getD, List.getElem?_set_self h]
  rfl
theorem mks_markParams_l0 : ∀ (d i : Nat) (xs : List S80) (a : Int), i + d = xs.length → xs.length < 4611686018427387904 → 0 ≤ a → a + 2 * d < 4611686018427387904 → ∃ K, ∀ k, K ≤ k → laws_markParamS.l0 k xs a (i : Int) = some (a + 2 * d, xs.take i ++ mk_params a d)
  | 0, i, xs, a, h, hl, h0, h1 => ⟨1, fun k hk => by
    obtain ⟨k, rfl⟩ : ∃ j, k = j + 1 := ⟨k - 1, by omega⟩
    rw [laws_markParamS.l0, if_neg (by omega), List.take_of_length_le (by omega)]; simp [mk_params]⟩
  | d + 1, i, xs, a, h, hl, h0, h1 => by
    obtain ⟨K2, e2⟩ := mks_markParams_l0 d (i + 1) ((xs.set i (⟨mk_text a, (rd_T80 xs (i : Int)).f1⟩ : S80)).set i (⟨(rd_T80 (xs.set i (⟨mk_text a, (rd_T80 xs (i : Int)).f1⟩ : S80)) (i : Int)).f0, a + 1⟩ : S80)) (a + 2) (by rw [List.length_set, List.length_set]; omega) (by rw [List.length_set, List.length_set]; exact hl) (by omega) (by omega)
    refine ⟨21 + K2 + 1, fun k hk => ?_⟩
    obtain ⟨k, rfl⟩ : ∃ j, k = j + 1 := ⟨k - 1, by omega⟩
    rw [laws_markParamS.l0, if_pos (by omega), mk_text_ev a (by omega) k (by omega), Option.bind_some, if_pos (by omega), Option.bind_some, mkk_wS h0 (by omega), mkk_wS (m := a + 1) (by omega) (by omega), mkk_wS (m := (i : Int)) (by omega) (by omega), Int.toNat_natCast]
    rw [show ((i : Int) + 1) = ((i + 1 : Nat) : Int) by omega, show a + 1 + 1 = a + 2 by omega, e2 k (by omega)]
    have e3 : ((xs.set i (⟨mk_text a, (rd_T80 xs (i : Int)).f1⟩ : S80)).set i (⟨(rd_T80 (xs.set i (⟨mk_text a, (rd_T80 xs (i : Int)).f1⟩ : S80)) (i : Int)).f0, a + 1⟩ : S80)).take (i + 1) = xs.take i ++ [(⟨mk_text a, a + 1⟩ : S80)] := by
      rw [mks_rd84_at _ _ _ (by omega), List.set_set, List.take_add_one, List.take_set_of_le (Nat.le_refl i), List.getElem?_set_self (by omega)]
      rfl
    rw [e3, mk_params, List.append_assoc]
    congr 2
    omega
theorem mks_markParams (xs : List S80) (a : Int) (hl : xs.length < 4611686018427387904) (h0 : 0 ≤ a) (h1 : a + 2 * xs.length < 4611686018427387904) : ∃ k, laws_markParamS.f k xs a = some (a + 2 * xs.length, mk_params a xs.length) := by
  obtain ⟨K, e⟩ := mks_markParams_l0 xs.length 0 xs a (by omega) hl h0 h1
  exact ⟨K, e K (Nat.le_refl _)⟩
def mk_fns : Int → List S44 → List S44
  | _, [] => []
  | a, x :: r => ⟨mk_text a, mk_params (a + 1) x.f1.length, a + 1 + 2 * (x.f1.length : Int), a + 1 + 2 * (x.f1.length : Int) + 1, a + 1 + 2 * (x.f1.length : Int) + 1 + 1⟩ :: mk_fns (a + ((4 + 2 * x.f1.length : Nat) : Int)) r
theorem mk_fns_len : ∀ (l : List S44) (a : Int), (mk_fns a l).length = l.length
  | [], _ => rfl
  | x :: r, a => by rw [mk_fns, List.length_cons, List.length_cons, mk_fns_len r]
theorem mk_fns_at : ∀ (l : List S44) (a : Int) (i : Nat) (m : Int), i < l.length → m + (mkk_fnsSum (l.drop i) : Nat) = a + (mkk_fnsSum l : Nat) → rd_T44 (mk_fns a l) (i : Int) = ⟨mk_text m, mk_params (m + 1) (rd_T44 l (i : Int)).f1.length, m + 1 + 2 * ((rd_T44 l (i : Int)).f1.length : Int), m + 1 + 2 * ((rd_T44 l (i : Int)).f1.length : Int) + 1, m + 1 + 2 * ((rd_T44 l (i : Int)).f1.length : Int) + 1 + 1⟩
  | [], a, i, m, h, e => absurd h (Nat.not_lt_zero i)
  | x :: r, a, 0, m, h, e => by
    have e2 : m = a := by rw [List.drop_zero] at e; omega
    subst e2
    rfl
  | x :: r, a, i + 1, m, h, e => by
    have h2 := mk_fns_at r (a + ((4 + 2 * x.f1.length : Nat) : Int)) i m (Nat.lt_of_succ_lt_succ h) (by rw [List.drop_succ_cons, mkk_fnsSum] at e; omega)
    rw [mk_fns]
    unfold rd_T44 at h2 ⊢
    rw [Int.toNat_natCast] at h2 ⊢
    rw [List.getD_cons_succ, List.getD_cons_succ]
    exact h2
theorem mk_fns_ext (xs ys : List S44) (hl : xs.length = ys.length) (h : ∀ j : Nat, j < ys.length → rd_T44 xs (j : Int) = rd_T44 ys (j : Int)) : xs = ys := by
  refine List.ext_getElem hl (fun j h1 h2 => ?_)
  have := h j h2
  rwa [mkk_rd69 xs j h1, mkk_rd69 ys j h2] at this
set_option maxHeartbeats 8000000 in
set_option maxRecDepth 100000 in
theorem mks_markFnS.calls (P : Nat → Prop) (u : Value) (l : List S44) (a : Int) (w0 w : World) (hB : Below w0.heap.size w0 w) (ho : Kd.S k44 44 w w0.heap.size P u l) (ha : 0 ≤ a) (hs : a + (mkk_fnsSum l : Nat) < 4611686018427387904) :
    Calls Try.prog 21 #[u, .int .i64 a] w fun e w' => e = .returned (.int .i64 (a + (mkk_fnsSum l : Nat))) ∧ Kd.S k44 44 w' w0.heap.size P u (mk_fns a l) ∧ Below w0.heap.size w0 w' ∧ Kept w w' P := by
 have HO0 := As.mk ho
 have HK := As.mk (Kept.refl w P)
 have HB := As.mk hB
 clear hB ho
 obtain ⟨b, hb⟩ : ∃ b : Int, b = a + (mkk_fnsSum l : Nat) := ⟨_, rfl⟩
 rw [← hb] at hs ⊢
 obtain ⟨M, hM⟩ : ∃ M, M = mk_fns a l := ⟨_, rfl⟩
 rw [← hM]
 have MAT := As.mk (show ∀ (i : Nat) (m : Int), i < l.length → m + (mkk_fnsSum (l.drop i) : Nat) = b → rd_T44 M (i : Int) = ⟨mk_text m, mk_params (m + 1) (rd_T44 l (i : Int)).f1.length, m + 1 + 2 * ((rd_T44 l (i : Int)).f1.length : Int), m + 1 + 2 * ((rd_T44 l (i : Int)).f1.length : Int) + 1, m + 1 + 2 * ((rd_T44 l (i : Int)).f1.length : Int) + 1 + 1⟩ by rw [hM, hb]; exact mk_fns_at l a)
 have MLEN := As.mk (show M.length = l.length by rw [hM]; exact mk_fns_len l a)
 clear hM
 have H0 := As.mk (show ((0 : Nat) ≤ l.length ∧ a + (mkk_fnsSum (l.drop 0) : Nat) = b ∧ 0 ≤ a ∧ b < 4611686018427387904) from ⟨Nat.zero_le _, by rw [List.drop_zero]; exact hb.symm, ha, hs⟩)
 clear hb hs ha
 go_enter Try.func21, Try.ntmps21
 go_wp2
 go_loopg [1, 5] (l.length + 1) (fun kq v1 v5 w' => ∃ (m x : Int) (xs : List S44), v1 = .int .i64 m ∧ v5 = .int .i64 x ∧ As (∃ i : Nat, x = (i : Int) ∧ i + kq = l.length + 1 ∧ i ≤ l.length ∧ m + (mkk_fnsSum (l.drop i) : Nat) = b ∧ 0 ≤ m ∧ b < 4611686018427387904 ∧ xs.length = l.length ∧ (∀ j : Nat, i ≤ j → rd_T44 xs (j : Int) = rd_T44 l (j : Int)) ∧ ∀ j : Nat, j < i → rd_T44 xs (j : Int) = rd_T44 M (j : Int)) ∧ As (Kd.S k44 44 w' w0.heap.size P u xs) ∧ As (Kept w w' P) ∧ As (Below w0.heap.size w0 w'))
 case atStart => exact ⟨a, 0, l, rfl, rfl, ⟨0, rfl, by omega, H0.out.1, H0.out.2.1, H0.out.2.2.1, H0.out.2.2.2, rfl, fun _ _ => rfl, fun j h => absurd h (Nat.not_lt_zero j)⟩, ⟨by (with_reducible repeat (first | apply Kd.S_alloc | apply Kd.S_drewN | apply Kd.S_drew)); exact HO0.out⟩, ⟨by repeat (first | (with_reducible first | exact HK.out | apply Kept.alloc | apply Kept.drewN | apply Kept.drew) | exact HK.out)⟩, ⟨be w0⟩⟩
 case round =>
  clear H0 HO0
  obtain ⟨m, x, xs, rfl, rfl, HI, HO, HK, HB⟩ := hrel
  by_cases c3 : x < (xs.length : Int)
  rotate_left
  ·
   have c3b0 : decide (x < (xs.length : Int)) = false := decide_eq_false c3
   obtain ⟨Ao, co, eo⟩ := Kd.S_slice HO.out
   subst eo
   have hm : m = b := by
    obtain ⟨i, rfl, h0, h1, h2, h3, h4, h5, h6⟩ := HI.out
    rw [List.drop_eq_nil_of_le (by omega)] at h2
    simp only [mkk_fnsSum] at h2
    omega
   have HXS := As.mk (show xs = M by
    obtain ⟨i, rfl, h0, h1, h2, h3, h4, h5, h6⟩ := HI.out
    exact mk_fns_ext xs M (h5.trans MLEN.out.symm) (fun j hj => h6.2 j (by have := MLEN.out; omega)))
   subst hm
   go_wp2
   go_ret
   exact ⟨rfl, by rw [← HXS.out]; (with_reducible repeat (first | apply Kd.S_alloc | apply Kd.S_drewN | apply Kd.S_drew)); exact HO.out, be w0, by repeat (first | (with_reducible first | exact HK.out | apply Kept.alloc | apply Kept.drewN | apply Kept.drew) | exact HK.out)⟩
  have c3b0 : decide (x < (xs.length : Int)) = true := decide_eq_true c3
  have hmx : xs.length ≤ 9223372036854775807 := by
   obtain ⟨Ao, co, eo⟩ := Kd.S_slice HO.out
   exact Kd.F_max (Kd.S_F (eo ▸ HO.out))
  have c0 : 0 ≤ x := by obtain ⟨i, rfl, _⟩ := HI.out; omega
  have c0b : decide (0 ≤ x) = true := decide_eq_true c0
  obtain ⟨Ao, co, eo⟩ := Kd.S_slice HO.out
  subst eo
  obtain ⟨go, co5, eo5, gb5, gl5, cl5, HG5⟩ := Kd.S_form HO.out (by omega)
  cases eo5
  have GB := As.mk gb5
  clear gb5 gl5 HG5
  have HPg := As.mk (show P go from (Kd.S_R HO.out).1 _ rfl)
  obtain ⟨kt, t, HT, HN, HTE⟩ : ∃ kt t, As (laws_markText.f kt m = some t) ∧ wrap64 (m + 1) = m + 1 ∧ t = mk_text m := by
   obtain ⟨i, rfl, h0, h1, h2, h3, h4, h5, h6⟩ := HI.out
   have h7 := mkk_fnsSum_drop l i (by omega)
   exact ⟨21, _, ⟨mk_text_some m (by omega)⟩, mkk_wS h3 (by omega), rfl⟩
  obtain ⟨y1, hy1⟩ : ∃ y_ : List S44, y_ = xs.set x.toNat (⟨t, (rd_T44 xs x).f1, (rd_T44 xs x).f2, (rd_T44 xs x).f3, (rd_T44 xs x).f4⟩ : S44) := ⟨_, rfl⟩
  obtain ⟨ki, r1, r2, HR, HE⟩ : ∃ ki r1 r2, As (laws_markParamS.f ki (rd_T44 y1 x).f1 (wrap64 (m + 1)) = some (r1, r2)) ∧ ∀ y2 y3 y4 y5 : List S44, y2 = y1.set x.toNat (⟨(rd_T44 y1 x).f0, r2, (rd_T44 y1 x).f2, (rd_T44 y1 x).f3, (rd_T44 y1 x).f4⟩ : S44) → y3 = y2.set x.toNat (⟨(rd_T44 y2 x).f0, (rd_T44 y2 x).f1, r1, (rd_T44 y2 x).f3, (rd_T44 y2 x).f4⟩ : S44) → y4 = y3.set x.toNat (⟨(rd_T44 y3 x).f0, (rd_T44 y3 x).f1, (rd_T44 y3 x).f2, (wrap64 (r1 + 1)), (rd_T44 y3 x).f4⟩ : S44) → y5 = y4.set x.toNat (⟨(rd_T44 y4 x).f0, (rd_T44 y4 x).f1, (rd_T44 y4 x).f2, (rd_T44 y4 x).f3, (wrap64 (wrap64 (r1 + 1) + 1))⟩ : S44) → ∃ i : Nat, wrap64 (x + 1) = (i : Int) ∧ i + (gk - 1) = l.length + 1 ∧ 1 ≤ gk ∧ i ≤ l.length ∧ (wrap64 (wrap64 (wrap64 (r1 + 1) + 1) + 1)) + (mkk_fnsSum (l.drop i) : Nat) = b ∧ 0 ≤ (wrap64 (wrap64 (wrap64 (r1 + 1) + 1) + 1)) ∧ b < 4611686018427387904 ∧ y5.length = l.length ∧ (∀ j : Nat, i ≤ j → rd_T44 y5 (j : Int) = rd_T44 l (j : Int)) ∧ ∀ j : Nat, j < i → rd_T44 y5 (j : Int) = rd_T44 M (j : Int) := by
   rw [HN]
   obtain ⟨i, rfl, h0, h1, h2, h3, h4, h5, h6⟩ := HI.out
   have hi : i < l.length := by omega
   have h7 := mkk_fnsSum_drop l i hi
   have l1 : y1.length = l.length := by rw [hy1, List.length_set]; exact h5
   have e0 : rd_T44 y1 (i : Int) = ⟨mk_text m, (rd_T44 xs (i : Int)).f1, (rd_T44 xs (i : Int)).f2, (rd_T44 xs (i : Int)).f3, (rd_T44 xs (i : Int)).f4⟩ := by
    rw [hy1, Int.toNat_natCast, mkk_rd69_at _ _ _ (by omega), HTE]
   have e1 : (rd_T44 y1 (i : Int)).f1 = (rd_T44 l (i : Int)).f1 := by rw [e0]; show (rd_T44 xs (i : Int)).f1 = _; exact congrArg S44.f1 (h6.1 i (Nat.le_refl _))
   obtain ⟨ki, h8⟩ := mks_markParams (rd_T44 y1 (i : Int)).f1 (m + 1) (by rw [e1]; omega) (by omega) (by rw [e1]; omega)
   refine ⟨ki, _, _, ⟨h8⟩, fun y2 y3 y4 y5 hy2 hy3 hy4 hy5 => ⟨i + 1, by unfold wrap64; omega, by omega, by omega, by omega, ?_⟩⟩
   have g1 := mkk_wS (m := m + 1 + 2 * (rd_T44 y1 (i : Int)).f1.length) (by omega) (by rw [e1]; omega)
   have g2 := mkk_wS (m := m + 1 + 2 * (rd_T44 y1 (i : Int)).f1.length + 1) (by omega) (by rw [e1]; omega)
   have g3 := mkk_wS (m := m + 1 + 2 * (rd_T44 y1 (i : Int)).f1.length + 1 + 1) (by omega) (by rw [e1]; omega)
   rw [g1, g2, g3]
   have l2 : y2.length = l.length := by rw [hy2, List.length_set]; exact l1
   have l3 : y3.length = l.length := by rw [hy3, List.length_set]; exact l2
   have l4 : y4.length = l.length := by rw [hy4, List.length_set]; exact l3
   refine ⟨by rw [e1]; omega, by omega, h4, by rw [hy5, List.length_set]; exact l4, fun j hj => ?_, fun j hj => ?_⟩
   · rw [hy5, Int.toNat_natCast, mkk_rd69_set _ _ _ _ (by omega), hy4, Int.toNat_natCast, mkk_rd69_set _ _ _ _ (by omega), hy3, Int.toNat_natCast, mkk_rd69_set _ _ _ _ (by omega), hy2, Int.toNat_natCast, mkk_rd69_set _ _ _ _ (by omega), hy1, Int.toNat_natCast, mkk_rd69_set _ _ _ _ (by omega)]
     exact h6.1 j (by omega)
   · by_cases hji : j = i
     · subst hji
       have E2 : rd_T44 y2 (j : Int) = ⟨mk_text m, mk_params (m + 1) (rd_T44 y1 (j : Int)).f1.length, (rd_T44 xs (j : Int)).f2, (rd_T44 xs (j : Int)).f3, (rd_T44 xs (j : Int)).f4⟩ := by rw [hy2, Int.toNat_natCast, mkk_rd69_at _ _ _ (by omega), e0]
       have E3 : rd_T44 y3 (j : Int) = ⟨mk_text m, mk_params (m + 1) (rd_T44 y1 (j : Int)).f1.length, m + 1 + 2 * ((rd_T44 y1 (j : Int)).f1.length : Int), (rd_T44 xs (j : Int)).f3, (rd_T44 xs (j : Int)).f4⟩ := by rw [hy3, Int.toNat_natCast, mkk_rd69_at _ _ _ (by omega), E2]
       have E4 : rd_T44 y4 (j : Int) = ⟨mk_text m, mk_params (m + 1) (rd_T44 y1 (j : Int)).f1.length, m + 1 + 2 * ((rd_T44 y1 (j : Int)).f1.length : Int), m + 1 + 2 * ((rd_T44 y1 (j : Int)).f1.length : Int) + 1, (rd_T44 xs (j : Int)).f4⟩ := by rw [hy4, Int.toNat_natCast, mkk_rd69_at _ _ _ (by omega), E3, g1]
       rw [hy5, Int.toNat_natCast, mkk_rd69_at _ _ _ (by omega), E4, MAT.out j m hi h2, e1, ← e1, g1, g2]
     · rw [hy5, Int.toNat_natCast, mkk_rd69_set _ _ _ _ (by omega), hy4, Int.toNat_natCast, mkk_rd69_set _ _ _ _ (by omega), hy3, Int.toNat_natCast, mkk_rd69_set _ _ _ _ (by omega), hy2, Int.toNat_natCast, mkk_rd69_set _ _ _ _ (by omega), hy1, Int.toNat_natCast, mkk_rd69_set _ _ _ _ (by omega)]
       exact h6.2 j (by omega)
  obtain ⟨y2, hy2⟩ : ∃ y_ : List S44, y_ = y1.set x.toNat (⟨(rd_T44 y1 x).f0, r2, (rd_T44 y1 x).f2, (rd_T44 y1 x).f3, (rd_T44 y1 x).f4⟩ : S44) := ⟨_, rfl⟩
  obtain ⟨y3, hy3⟩ : ∃ y_ : List S44, y_ = y2.set x.toNat (⟨(rd_T44 y2 x).f0, (rd_T44 y2 x).f1, r1, (rd_T44 y2 x).f3, (rd_T44 y2 x).f4⟩ : S44) := ⟨_, rfl⟩
  obtain ⟨y4, hy4⟩ : ∃ y_ : List S44, y_ = y3.set x.toNat (⟨(rd_T44 y3 x).f0, (rd_T44 y3 x).f1, (rd_T44 y3 x).f2, (wrap64 (r1 + 1)), (rd_T44 y3 x).f4⟩ : S44) := ⟨_, rfl⟩
  obtain ⟨y5, hy5⟩ : ∃ y_ : List S44, y_ = y4.set x.toNat (⟨(rd_T44 y4 x).f0, (rd_T44 y4 x).f1, (rd_T44 y4 x).f2, (rd_T44 y4 x).f3, (wrap64 (wrap64 (r1 + 1) + 1))⟩ : S44) := ⟨_, rfl⟩
  replace HE := As.mk (HE y2 y3 y4 y5 hy2 hy3 hy4 hy5)
  have Ny1 := As.mk hy1
  have Ny2 := As.mk hy2
  have Ny3 := As.mk hy3
  have Ny4 := As.mk hy4
  have Ny5 := As.mk hy5
  clear hy1 hy2 hy3 hy4 hy5 HI HN HTE c3 c0 hmx
  have p0 := eq_true (of_decide_eq_true c0b)
  have q0 := eq_true (of_decide_eq_true c3b0)
  go_wp2_with (first | ((with_reducible refine gate_callee (f := 32) rfl ?_); refine goesL_ (some 15) rfl rfl Try.func32 (by kernel_rfl) rfl #[.int .i64 m] rfl (by (try simp only [lm]); first | done | rfl) ?_; (with_reducible refine (laws_markText.calls kt _ t _ HT.out).mono ?_); rintro e w11 ⟨rfl, hb⟩; refine ⟨_, rfl, ?_⟩; replace HO := As.mk (Kd.S_below (by (with_reducible repeat (first | apply Kd.S_alloc | apply Kd.S_drewN | apply Kd.S_drew)); exact HO.out) hb); replace HK := As.mk (Kept.below (by repeat (first | (with_reducible first | exact HK.out | apply Kept.alloc | apply Kept.drewN | apply Kept.drew) | exact HK.out)) hb); replace HB := As.mk (below_step (be w0) hb); clear hb; obtain ⟨_, ce1, hcl1, hM1, hcc1, hfr1, hput1⟩ := mkk_S_elemF HO.out z44 x (of_decide_eq_true c0b) (of_decide_eq_true c3b0); obtain ⟨v1, rfl, g1⟩ := k44_openM hM1; have hx1 : w11.cell? ⟨go, x.toNat * 5, none⟩ = some (.string (rd_T44 xs x).f0) := hcc1 0 _ rfl; have hf1 : w11.frozen? ⟨go, x.toNat * 5, none⟩ = false := hfr1 0; have HP1 := As.mk (hput1 (seg := [.string t]) (j := 0) (x' := (⟨t, (rd_T44 xs x).f1, (rd_T44 xs x).f2, (rd_T44 xs x).f3, (rd_T44 xs x).f4⟩ : S44)) (show 1 ≤ 5 from by decide) (k44_mkM _ _ _ (⟨t, (rd_T44 xs x).f1, (rd_T44 xs x).f2, (rd_T44 xs x).f3, (rd_T44 xs x).f4⟩ : S44) g1)); clear hcl1 hcc1 hfr1 hM1 hput1 g1) | ((with_reducible refine gate_store (t := 9) (p := 17) rfl ?_); refine store_event (t := 9) (p := 17) (v := ?vo_w12) (w1 := (w11.setCell ⟨go, x.toNat * 5, none⟩ (.string t))) ?hg ?ho ?hn ?hr ?_; (case ho => rfl); (case hg => rfl); (case hn => rfl); (case hr => first | (go_simp; done) | (go_simp; rfl)); intro w12 hw; have hg : w11.grownBy w12 (some go) := (by rw [hw]; exact HP1.out.2); have hp_ : Kd.S k44 44 w12 w0.heap.size P (.slice (some ⟨go, 0, none⟩) xs.length co) y1 := (by rw [hw, Ny1.out]; exact HP1.out.1); clear HP1 hx1 hf1 HO; have HO := As.mk hp_; replace HB := As.mk ((by rw [hw]; exact below_set HB.out GB.out : Below w0.heap.size w0 w12)); replace HK := As.mk (Kept.of_grown hg HK.out (fun k_ e_ => .inl (by injection e_ with e_; rw [← e_]; exact HPg.out))); clear hg hw hp_; obtain ⟨oki, ce4, hcl4, hM4, hcc4, hoki4, hH4⟩ := Kd.S_lend HO.out z44 x (of_decide_eq_true c0b) (of_decide_eq_true c3b0); obtain ⟨v4, rfl, g4⟩ := k44_openM hM4; obtain ⟨A4, c4, e4⟩ := Kd.R_slice g4; subst e4; have hx4 : w12.cell? ⟨go, x.toNat * 5 + 1, none⟩ = some (.slice A4 (rd_T44 y1 x).f1.length c4) := hcc4 1 _ rfl; have G4 := As.mk g4; have HH4 := As.mk hH4; have HO4 := As.mk hoki4; clear hcl4 hcc4 hM4 hH4 hoki4 g4 HO))
  refine (laws_markParamS.calls ki oki _ (rd_T44 y1 x).f1 _ r1 r2 w0 _ (be w0) (by (with_reducible repeat (first | apply Kd.R_alloc | apply Kd.R_drewN | apply Kd.R_drew)); exact G4.out) HR.out).mono ?_
  rintro e w15 ⟨rfl, hr_, hb, hkp⟩
  have hM5 : k44.M w15 w0.heap.size oki (⟨(rd_T44 y1 x).f0, r2, (rd_T44 y1 x).f2, (rd_T44 y1 x).f3, (rd_T44 y1 x).f4⟩ : S44) [.string (rd_T44 y1 x).f0, .slice A4 (rd_T44 y1 x).f1.length c4, .int .i64 (rd_T44 y1 x).f2, .int .i64 (rd_T44 y1 x).f3, .int .i64 (rd_T44 y1 x).f4] := k44_mkM w15 w0.heap.size oki (⟨(rd_T44 y1 x).f0, r2, (rd_T44 y1 x).f2, (rd_T44 y1 x).f3, (rd_T44 y1 x).f4⟩ : S44) (Kd.R_reok rfl hr_ (fun k_ e_ => G4.out.1 k_ e_))
  have hH5 := Kd.H_kept HH4.out hkp (fun _ _ h_ => h_)
  have hO5 := Kd.H_back hH5 hM5 (fun _ h_ => h_)
  rw [← Ny2.out] at hO5
  have HO := As.mk hO5
  clear hM5 hH5 hO5
  replace HB := As.mk hb
  replace HK := As.mk (Kept.then_ (by repeat (first | (with_reducible first | exact HK.out | apply Kept.alloc | apply Kept.drewN | apply Kept.drew) | exact HK.out)) hkp (fun k_ h_ => .inl (HO4.out k_ h_).1))
  clear hr_ hb hkp HH4 G4 HO4
  obtain ⟨_, ce5, hcl5, hM5, hcc5, hfr5, hput5⟩ := mkk_S_elemF HO.out z44 x (of_decide_eq_true c0b) (of_decide_eq_true c3b0)
  obtain ⟨v5, rfl, g5⟩ := k44_openM hM5
  have hx5 : w15.cell? ⟨go, x.toNat * 5 + 2, none⟩ = some (.int .i64 (rd_T44 y2 x).f2) := hcc5 2 _ rfl
  have hf5 : w15.frozen? ⟨go, x.toNat * 5 + 2, none⟩ = false := hfr5 2
  have HP5 := As.mk (hput5 (seg := [.int .i64 r1]) (j := 2) (x' := (⟨(rd_T44 y2 x).f0, (rd_T44 y2 x).f1, r1, (rd_T44 y2 x).f3, (rd_T44 y2 x).f4⟩ : S44)) (show 3 ≤ 5 from by decide) (k44_mkM _ _ _ (⟨(rd_T44 y2 x).f0, (rd_T44 y2 x).f1, r1, (rd_T44 y2 x).f3, (rd_T44 y2 x).f4⟩ : S44) g5))
  clear hcl5 hcc5 hfr5 hM5 hput5 g5
  go_wp2_with (first | ((with_reducible refine gate_store (t := 3) (p := 31) rfl ?_); refine store_event (t := 3) (p := 31) (v := ?vo_w16) (w1 := (w15.setCell ⟨go, x.toNat * 5 + 2, none⟩ (.int .i64 r1))) ?hg ?ho ?hn ?hr ?_; (case ho => rfl); (case hg => rfl); (case hn => rfl); (case hr => first | (go_simp; done) | (go_simp; rfl)); intro w16 hw; have hg : w15.grownBy w16 (some go) := (by rw [hw]; exact HP5.out.2); have hp_ : Kd.S k44 44 w16 w0.heap.size P (.slice (some ⟨go, 0, none⟩) xs.length co) y3 := (by rw [hw, Ny3.out]; exact HP5.out.1); clear HP5 hx5 hf5 HO; have HO := As.mk hp_; replace HB := As.mk ((by rw [hw]; exact below_set HB.out GB.out : Below w0.heap.size w0 w16)); replace HK := As.mk (Kept.of_grown hg HK.out (fun k_ e_ => .inl (by injection e_ with e_; rw [← e_]; exact HPg.out))); clear hg hw hp_; obtain ⟨_, ce6, hcl6, hM6, hcc6, hfr6, hput6⟩ := mkk_S_elemF HO.out z44 x (of_decide_eq_true c0b) (of_decide_eq_true c3b0); obtain ⟨v6, rfl, g6⟩ := k44_openM hM6; have hx6 : w16.cell? ⟨go, x.toNat * 5 + 3, none⟩ = some (.int .i64 (rd_T44 y3 x).f3) := hcc6 3 _ rfl; have hf6 : w16.frozen? ⟨go, x.toNat * 5 + 3, none⟩ = false := hfr6 3; have HP6 := As.mk (hput6 (seg := [.int .i64 (wrap64 (r1 + 1))]) (j := 3) (x' := (⟨(rd_T44 y3 x).f0, (rd_T44 y3 x).f1, (rd_T44 y3 x).f2, (wrap64 (r1 + 1)), (rd_T44 y3 x).f4⟩ : S44)) (show 4 ≤ 5 from by decide) (k44_mkM _ _ _ (⟨(rd_T44 y3 x).f0, (rd_T44 y3 x).f1, (rd_T44 y3 x).f2, (wrap64 (r1 + 1)), (rd_T44 y3 x).f4⟩ : S44) g6)); clear hcl6 hcc6 hfr6 hM6 hput6 g6) | ((with_reducible refine gate_store (t := 3) (p := 38) rfl ?_); refine store_event (t := 3) (p := 38) (v := ?vo_w17) (w1 := (w16.setCell ⟨go, x.toNat * 5 + 3, none⟩ (.int .i64 (wrap64 (r1 + 1))))) ?hg ?ho ?hn ?hr ?_; (case ho => rfl); (case hg => rfl); (case hn => rfl); (case hr => first | (go_simp; done) | (go_simp; rfl)); intro w17 hw; have hg : w16.grownBy w17 (some go) := (by rw [hw]; exact HP6.out.2); have hp_ : Kd.S k44 44 w17 w0.heap.size P (.slice (some ⟨go, 0, none⟩) xs.length co) y4 := (by rw [hw, Ny4.out]; exact HP6.out.1); clear HP6 hx6 hf6 HO; have HO := As.mk hp_; replace HB := As.mk ((by rw [hw]; exact below_set HB.out GB.out : Below w0.heap.size w0 w17)); replace HK := As.mk (Kept.of_grown hg HK.out (fun k_ e_ => .inl (by injection e_ with e_; rw [← e_]; exact HPg.out))); clear hg hw hp_; obtain ⟨_, ce7, hcl7, hM7, hcc7, hfr7, hput7⟩ := mkk_S_elemF HO.out z44 x (of_decide_eq_true c0b) (of_decide_eq_true c3b0); obtain ⟨v7, rfl, g7⟩ := k44_openM hM7; have hx7 : w17.cell? ⟨go, x.toNat * 5 + 4, none⟩ = some (.int .i64 (rd_T44 y4 x).f4) := hcc7 4 _ rfl; have hf7 : w17.frozen? ⟨go, x.toNat * 5 + 4, none⟩ = false := hfr7 4; have HP7 := As.mk (hput7 (seg := [.int .i64 (wrap64 (wrap64 (r1 + 1) + 1))]) (j := 4) (x' := (⟨(rd_T44 y4 x).f0, (rd_T44 y4 x).f1, (rd_T44 y4 x).f2, (rd_T44 y4 x).f3, (wrap64 (wrap64 (r1 + 1) + 1))⟩ : S44)) (show 5 ≤ 5 from by decide) (k44_mkM _ _ _ (⟨(rd_T44 y4 x).f0, (rd_T44 y4 x).f1, (rd_T44 y4 x).f2, (rd_T44 y4 x).f3, (wrap64 (wrap64 (r1 + 1) + 1))⟩ : S44) g7)); clear hcl7 hcc7 hfr7 hM7 hput7 g7) | ((with_reducible refine gate_store (t := 3) (p := 45) rfl ?_); refine store_event (t := 3) (p := 45) (v := ?vo_w18) (w1 := (w17.setCell ⟨go, x.toNat * 5 + 4, none⟩ (.int .i64 (wrap64 (wrap64 (r1 + 1) + 1))))) ?hg ?ho ?hn ?hr ?_; (case ho => rfl); (case hg => rfl); (case hn => rfl); (case hr => first | (go_simp; done) | (go_simp; rfl)); intro w18 hw; have hg : w17.grownBy w18 (some go) := (by rw [hw]; exact HP7.out.2); have hp_ : Kd.S k44 44 w18 w0.heap.size P (.slice (some ⟨go, 0, none⟩) xs.length co) y5 := (by rw [hw, Ny5.out]; exact HP7.out.1); clear HP7 hx7 hf7 HO; have HO := As.mk hp_; replace HB := As.mk ((by rw [hw]; exact below_set HB.out GB.out : Below w0.heap.size w0 w18)); replace HK := As.mk (Kept.of_grown hg HK.out (fun k_ e_ => .inl (by injection e_ with e_; rw [← e_]; exact HPg.out))); clear hg hw hp_))
  go_roundg (gk - 1)
  case measure => obtain ⟨i, _, _, h_, _⟩ := HE.out; omega
  case rel =>
   obtain ⟨i, h1, h2, h3, h4, h5, h6, h7, h8, h9⟩ := HE.out
   exact ⟨_, wrap64 (x + 1), _, rfl, rfl, ⟨i, h1, h2, h4, h5, h6, h7, h8, h9⟩, ⟨by (with_reducible repeat (first | apply Kd.S_alloc | apply Kd.S_drewN | apply Kd.S_drew)); exact HO.out⟩, ⟨by repeat (first | (with_reducible first | exact HK.out | apply Kept.alloc | apply Kept.drewN | apply Kept.drew) | exact HK.out)⟩, ⟨be w0⟩⟩

/-! ### by hand: markProgram, its rows handed back -/
def laws_markProgram.f (l1 : List S64) (l2 : List S44) (a : Int) : Option (Int × List S64 × List S44) := if 0 ≤ a ∧ a + ((mkk_nodesSum l1 + mkk_fnsSum l2 : Nat) : Int) < 4611686018427387904 then some (a + ((mkk_nodesSum l1 + mkk_fnsSum l2 : Nat) : Int), mk_nodes a l1, mk_fns (a + (mkk_nodesSum l1 : Nat)) l2) else none
set_option maxHeartbeats 8000000 in
set_option maxRecDepth 100000 in
theorem laws_markProgram.calls (P1 : Nat → Prop) (u1 : Value) (l1 : List S64) (P2 : Nat → Prop) (u2 : Value) (l2 : List S44) (a r1 : Int) (r2 : List S64) (r3 : List S44) (w0 w : World) (hB : Below w0.heap.size w0 w) (h1 : Kd.S k64 64 w w0.heap.size P1 u1 l1) (h2 : Kd.S k44 44 w w0.heap.size P2 u2 l2) (h : laws_markProgram.f l1 l2 a = some (r1, r2, r3)) :
    Calls Try.prog 9 #[.agg #[u1, u2], .int .i64 a] w fun e w' => e = .returned (.int .i64 r1) ∧ Kd.S k64 64 w' w0.heap.size P1 u1 r2 ∧ Kd.S k44 44 w' w0.heap.size P2 u2 r3 ∧ Below w0.heap.size w0 w' ∧ Kept w w' (fun k => P1 k ∨ P2 k) := by
 rw [laws_markProgram.f] at h
 by_cases c : 0 ≤ a ∧ a + ((mkk_nodesSum l1 + mkk_fnsSum l2 : Nat) : Int) < 4611686018427387904
 rotate_left
 · rw [if_neg c] at h; cases h
 rw [if_pos c] at h
 simp only [Option.some.injEq, Prod.mk.injEq] at h
 obtain ⟨rfl, rfl, rfl⟩ := h
 have HC := As.mk c
 have HO1 := As.mk h1
 have HO2 := As.mk h2
 have HB := As.mk hB
 clear c h1 h2 hB
 go_enter Try.func9, Try.ntmps9
 obtain ⟨A1, c1, e1⟩ := Kd.S_slice HO1.out
 obtain ⟨A2, c2, e2⟩ := Kd.S_slice HO2.out
 subst e1
 subst e2
 go_wp2_with (fail)
 obtain ⟨W1, hW⟩ : ∃ W1, W1 = w.alloc (Obj.cells #[Value.slice A1 l1.length c1, Value.slice A2 l2.length c2] 30) := ⟨_, rfl⟩
 have hB1 : Below w0.heap.size w0 W1 := by rw [hW]; exact below_alloc HB.out _
 have hK1 : Kept w W1 (fun k => P1 k ∨ P2 k) := by rw [hW]; exact Kept.alloc (Kept.refl _ _) _
 have hX1 : W1.heap[w.heap.size]? = some (.cells #[Value.slice A1 l1.length c1, Value.slice A2 l2.length c2] 30 (0, 0)) := by rw [hW]; exact Array.getElem?_push_size
 have g1 : Kd.S k64 64 W1 w0.heap.size (fun k => P1 k ∧ k < w.heap.size) (.slice A1 l1.length c1) l1 := by rw [hW]; exact Kd.S_alloc (Kd.S_mono (Kd.S_bound HO1.out) (fun k h => ⟨h.1, h.2.2.1⟩)) _
 have g2 : Kd.S k44 44 W1 w0.heap.size (fun k => P2 k ∧ k < w.heap.size) (.slice A2 l2.length c2) l2 := by rw [hW]; exact Kd.S_alloc (Kd.S_mono (Kd.S_bound HO2.out) (fun k h => ⟨h.1, h.2.2.1⟩)) _
 rw [← hW]
 clear hW HO1 HO2 HB
 refine (mks_markNodeS.calls _ _ l1 a w0 W1 hB1 (Kd.S_bound g1) HC.out.1 (by have := HC.out.2; omega)).mono ?_
 rintro e w2 ⟨rfl, hO1, hB2, hkp⟩
 have g3 := Kd.S_kept (Kd.S_bound g2) hkp (fun k h3 h4 => mkk_tyne h4 h3 (by decide))
 have g4 : Kd.S k44 44 w2 w0.heap.size (fun k => P2 k ∧ k < w.heap.size) (.slice A2 l2.length c2) l2 := Kd.S_mono g3 (fun k h => h.1)
 have hX2 := blk_kept hX1 hkp (fun h => Nat.lt_irrefl _ h.1.2)
 have hK2 : Kept w w2 (fun k => P1 k ∨ P2 k) := Kept.then_ hK1 hkp (fun k h => .inl (.inl h.1.1))
 have hx2 : w2.cell? ⟨w.heap.size, 1, none⟩ = some (Value.slice A2 l2.length c2) := (blk_cell hX2 1).trans rfl
 clear hX1 hX2 hkp g1 g2 g3 hB1 hK1
 go_wp2_with (fail)
 refine (mks_markFnS.calls _ _ l2 _ w0 w2 hB2 (Kd.S_bound g4) (by have := HC.out.1; omega) (by have := HC.out.2; omega)).mono ?_
 rintro e w3 ⟨rfl, hO2, hB3, hkp⟩
 have hK3 : Kept w w3 (fun k => P1 k ∨ P2 k) := Kept.then_ hK2 hkp (fun k h => .inl (.inr h.1.1))
 have g5 := Kd.S_kept (Kd.S_bound hO1) hkp (fun k h3 h4 => mkk_tyne h3 h4 (by decide))
 go_wp2
 go_ret
 exact ⟨by rw [show a + ((mkk_nodesSum l1 + mkk_fnsSum l2 : Nat) : Int) = a + (mkk_nodesSum l1 : Nat) + (mkk_fnsSum l2 : Nat) by omega]; rfl, Kd.S_mono g5 (fun k h => h.1.1.1), Kd.S_mono hO2 (fun k h => h.1.1), hB3, hK3⟩

end Go.Proofs.Ytnepkmbknoanjaa.PFnExactPacked
