/- Written by a program of this session (a turned copy of the kit's print): a contract for each Go function. No condition beside those in each statement. -/
import Derived.Test.YtnepkmbknoanjaaPFnExactPackedx0
import Derived.Test.YtnepkmbknoanjaaPFnExactPackedx1
import Derived.Test.YtnepkmbknoanjaaPFnExactPackedx2
import Derived.Test.YtnepkmbknoanjaaPFnExactPackedx3
import Derived.Test.YtnepkmbknoanjaaPFnExactPackedx4
import Derived.Test.YtnepkmbknoanjaaPFnExactPackedx5
namespace Go.Proofs.Ytnepkmbknoanjaa.PFnExactPacked
open Go.RowKit Go.Proofs.YtnepkmbknoanjaaW.PrintWords Go.Proofs.YtnepkmbknoanjaaW.PrintLast Go.Proofs.YtnepkmbknoanjaaW.PrintMore
attribute [local go_sem] max2_int min2_int max_two min_two max_three min_three max_four min_four   -- for this text's walks alone
set_option linter.unusedVariables false
set_option linter.unusedSimpArgs false

/-! what the packers do: by the depth that is left -/
def pkI_kids (f : Int → List S64 → Bool → Int × List S64 × Bool) : List Int → List S64 → List Int → List S64 × Bool × List Int
  | [], t, out => (t, false, out)
  | c :: r, t, out => if (f c t false).2.2 = true then ((f c t false).2.1, true, out) else pkI_kids f r (f c t false).2.1 (out ++ [(f c t false).1])
def pkI_put (ns : List S64) : Nat → Int → List S64 → Bool → Int × List S64 × Bool
  | 0, _, t, _ => (-1, t, true)
  | K + 1, a, t, b => if b = true ∨ ¬ (0 ≤ a ∧ a < (ns.length : Int)) ∨ 300 ≤ t.length then (-1, t, true) else
    if (pkI_kids (pkI_put ns K) (rd_T64 ns a).f3 t []).2.1 = true ∨ 300 ≤ (pkI_kids (pkI_put ns K) (rd_T64 ns a).f3 t []).1.length then (-1, (pkI_kids (pkI_put ns K) (rd_T64 ns a).f3 t []).1, true)
    else (((pkI_kids (pkI_put ns K) (rd_T64 ns a).f3 t []).1.length : Int), (pkI_kids (pkI_put ns K) (rd_T64 ns a).f3 t []).1 ++ [⟨(rd_T64 ns a).f0, (rd_T64 ns a).f1, (rd_T64 ns a).f2, (pkI_kids (pkI_put ns K) (rd_T64 ns a).f3 t []).2.2⟩], false)
def pkS_kids (f : Int → List S64 → Bool → Int × List S64 × Bool) : List Int → List S64 → Bool → List Int → List S64 × Bool × List Int
  | [], t, b, out => (t, b, out)
  | c :: r, t, b, out => if b = true then (t, b, out) else pkS_kids f r (f c t false).2.1 (f c t false).2.2 (out ++ [(f c t false).1])
def pkS_put (ns : List S64) : Nat → Int → List S64 → Bool → Int × List S64 × Bool
  | 0, _, t, _ => (-1, t, true)
  | K + 1, a, t, b => if b = true ∨ ¬ (0 ≤ a ∧ a < (ns.length : Int)) ∨ 300 < t.length then (-1, t, true) else
    (((pkS_kids (pkS_put ns K) (rd_T64 ns a).f3 t false []).1.length : Int), (pkS_kids (pkS_put ns K) (rd_T64 ns a).f3 t false []).1 ++ [⟨(rd_T64 ns a).f0, (rd_T64 ns a).f1, (rd_T64 ns a).f2, (pkS_kids (pkS_put ns K) (rd_T64 ns a).f3 t false []).2.2⟩], (pkS_kids (pkS_put ns K) (rd_T64 ns a).f3 t false []).2.1)
theorem pkI_grow (ns : List S64) (K : Nat) (a : Int) (t : List S64) (b : Bool) (hK : ∀ (a : Int) (t : List S64) (b : Bool), (pkI_put ns K a t b).2.2 = true ∨ t.length + 1 ≤ (pkI_put ns K a t b).2.1.length ∧ (pkI_put ns K a t b).2.1.length ≤ 300) : ∀ (cs : List Int) (t : List S64) (out : List Int), out.length ≤ t.length → t.length ≤ 300 →
    (pkI_kids (pkI_put ns K) cs t out).2.1 = true ∨ t.length ≤ (pkI_kids (pkI_put ns K) cs t out).1.length ∧ (pkI_kids (pkI_put ns K) cs t out).2.2.length ≤ (pkI_kids (pkI_put ns K) cs t out).1.length ∧ (pkI_kids (pkI_put ns K) cs t out).1.length ≤ 300
  | [], t, out, h, ht => .inr ⟨Nat.le_refl _, h, ht⟩
  | c :: r, t, out, h, ht => by
    rw [pkI_kids]
    by_cases q : (pkI_put ns K c t false).2.2 = true
    · rw [if_pos q]; exact .inl rfl
    · rw [if_neg q]
      have h2 := (hK c t false).resolve_left q
      rcases pkI_grow ns K a t b hK r (pkI_put ns K c t false).2.1 (out ++ [(pkI_put ns K c t false).1]) (by rw [List.length_append, List.length_singleton]; omega) h2.2 with h3 | h3
      · exact .inl h3
      · exact .inr ⟨by omega, h3.2⟩
theorem pkI_good (ns : List S64) : ∀ (K : Nat) (a : Int) (t : List S64) (b : Bool), (pkI_put ns K a t b).2.2 = true ∨ t.length + 1 ≤ (pkI_put ns K a t b).2.1.length ∧ (pkI_put ns K a t b).2.1.length ≤ 300
  | 0, a, t, b => .inl rfl
  | K + 1, a, t, b => by
    rw [pkI_put]
    by_cases q : b = true ∨ ¬ (0 ≤ a ∧ a < (ns.length : Int)) ∨ 300 ≤ t.length
    · rw [if_pos q]; exact .inl rfl
    · rw [if_neg q]
      by_cases q2 : (pkI_kids (pkI_put ns K) (rd_T64 ns a).f3 t []).2.1 = true ∨ 300 ≤ (pkI_kids (pkI_put ns K) (rd_T64 ns a).f3 t []).1.length
      · rw [if_pos q2]; exact .inl rfl
      · rw [if_neg q2]
        have h := pkI_grow ns K a t b (pkI_good ns K) (rd_T64 ns a).f3 t [] (by simp) (by omega)
        refine .inr ?_
        simp only [List.length_append, List.length_singleton]
        rcases h with h | h
        · exact absurd (.inl h) q2
        · omega
theorem pkS_kids_len (ns : List S64) (K : Nat) (hK : ∀ (a : Int) (t : List S64) (b : Bool), (pkS_put ns K a t b).2.1.length ≤ max t.length (301 + K) ∧ t.length ≤ (pkS_put ns K a t b).2.1.length ∧ ((pkS_put ns K a t b).2.2 = true ∨ t.length + 1 ≤ (pkS_put ns K a t b).2.1.length)) : ∀ (cs : List Int) (t : List S64) (b : Bool) (out : List Int), out.length ≤ t.length + (if b = true then 1 else 0) → t.length ≤ 301 + K →
    (pkS_kids (pkS_put ns K) cs t b out).1.length ≤ 301 + K ∧ t.length ≤ (pkS_kids (pkS_put ns K) cs t b out).1.length ∧ (pkS_kids (pkS_put ns K) cs t b out).2.2.length ≤ (pkS_kids (pkS_put ns K) cs t b out).1.length + 1 ∧ (b = true → (pkS_kids (pkS_put ns K) cs t b out).2.1 = true)
  | [], t, b, out, h, ht => ⟨ht, Nat.le_refl _, by show out.length ≤ t.length + 1; split at h <;> omega, id⟩
  | c :: r, t, b, out, h, ht => by
    rw [pkS_kids]
    by_cases q : b = true
    · rw [if_pos q]; exact ⟨ht, Nat.le_refl _, by rw [if_pos q] at h; exact h, fun _ => q⟩
    · rw [if_neg q]
      rw [if_neg q] at h
      have h2 := hK c t false
      have h3 := pkS_kids_len ns K hK r (pkS_put ns K c t false).2.1 (pkS_put ns K c t false).2.2 (out ++ [(pkS_put ns K c t false).1]) (by
        rw [List.length_append, List.length_singleton]
        rcases h2.2.2 with h4 | h4
        · rw [if_pos h4]; omega
        · split <;> omega) (by have := h2.1; omega)
      exact ⟨h3.1, by omega, h3.2.2.1, fun hb => absurd hb q⟩
theorem pkS_len (ns : List S64) : ∀ (K : Nat) (a : Int) (t : List S64) (b : Bool), (pkS_put ns K a t b).2.1.length ≤ max t.length (301 + K) ∧ t.length ≤ (pkS_put ns K a t b).2.1.length ∧ ((pkS_put ns K a t b).2.2 = true ∨ t.length + 1 ≤ (pkS_put ns K a t b).2.1.length)
  | 0, a, t, b => ⟨(show t.length ≤ max t.length (301 + 0) by omega), Nat.le_refl t.length, .inl rfl⟩
  | K + 1, a, t, b => by
    rw [pkS_put]
    by_cases q : b = true ∨ ¬ (0 ≤ a ∧ a < (ns.length : Int)) ∨ 300 < t.length
    · rw [if_pos q]; exact ⟨by show t.length ≤ _; omega, Nat.le_refl _, .inl rfl⟩
    · rw [if_neg q]
      have h := pkS_kids_len ns K (pkS_len ns K) (rd_T64 ns a).f3 t false [] (by simp) (by omega)
      simp only [List.length_append, List.length_singleton]
      exact ⟨by omega, by omega, .inr (by omega)⟩

theorem cl3x {w : World} {g : Nat} {t : TypeId} {a0 a1 a2 : Value} (h : w.heap[g]? = some (.cells #[a0, a1, a2] t (0, 0))) : w.cell? ⟨g, 0, none⟩ = some a0 ∧ w.cell? ⟨g, 1, none⟩ = some a1 ∧ w.cell? ⟨g, 2, none⟩ = some a2 ∧ w.frozen? ⟨g, 0, none⟩ = false ∧ w.frozen? ⟨g, 1, none⟩ = false ∧ w.frozen? ⟨g, 2, none⟩ = false := ⟨(blk_cell h 0).trans rfl, (blk_cell h 1).trans rfl, (blk_cell h 2).trans rfl, blk_frozen h 0, blk_frozen h 1, blk_frozen h 2⟩
theorem cl4x {w : World} {g : Nat} {t : TypeId} {a0 a1 a2 a3 : Value} (h : w.heap[g]? = some (.cells #[a0, a1, a2, a3] t (0, 0))) : w.cell? ⟨g, 0, none⟩ = some a0 ∧ w.cell? ⟨g, 1, none⟩ = some a1 ∧ w.cell? ⟨g, 2, none⟩ = some a2 ∧ w.cell? ⟨g, 3, none⟩ = some a3 ∧ w.frozen? ⟨g, 0, none⟩ = false ∧ w.frozen? ⟨g, 1, none⟩ = false ∧ w.frozen? ⟨g, 2, none⟩ = false ∧ w.frozen? ⟨g, 3, none⟩ = false := ⟨(blk_cell h 0).trans rfl, (blk_cell h 1).trans rfl, (blk_cell h 2).trans rfl, (blk_cell h 3).trans rfl, blk_frozen h 0, blk_frozen h 1, blk_frozen h 2, blk_frozen h 3⟩

theorem pk_in {a : Int} {n : Nat} (hn : n ≤ 9223372036854775807) : impl_in.f a 0 (wrap64 ((n : Int) - 1)) = some (decide (0 ≤ a ∧ a < (n : Int))) := by
  have e : wrap64 ((n : Int) - 1) = (n : Int) - 1 := by unfold wrap64; omega
  rw [impl_in.f, e]
  by_cases c : a ≥ 0
  · rw [if_pos c]; congr 1; exact decide_eq_decide.2 (by omega)
  · rw [if_neg c, decide_eq_false (by omega)]
theorem pkI_bad (ns : List S64) (K : Nat) (a : Int) (t : List S64) (b : Bool) (h : K = 0 ∨ b = true ∨ ¬ (0 ≤ a ∧ a < (ns.length : Int)) ∨ 300 ≤ t.length) : pkI_put ns K a t b = (-1, t, true) := by
  cases K with
  | zero => rfl
  | succ K => rw [pkI_put, if_pos (h.resolve_left (by omega))]
/-- What the packer's state is behind a call that gives up. -/
theorem pk_exit {okT : Nat → Prop} {g : Nat} {tv fv : Value} {t : List S64} {b : Bool} {w0 W W1 : World} (hB : Below w0.heap.size w0 W) (hg : w0.heap.size ≤ g) (hx : W.heap[g]? = some (.cells #[fv, tv, .bool b] 49 (0, 0))) (hT : Kd.S k64 64 W w0.heap.size okT tv t) (hgT : ¬ okT g) (h1 : ∃ n, W1 = (W.drewN n).setCell ⟨g, 2, none⟩ (.bool true)) :
    ∃ tv', W1.heap[g]? = some (.cells #[fv, tv', .bool true] 49 (0, 0)) ∧ Kd.S k64 64 W1 w0.heap.size (fun k => okT k ∨ W.heap.size ≤ k) tv' t ∧ Below w0.heap.size w0 W1 ∧ Kept W W1 (fun k => k = g ∨ okT k) := by
  obtain ⟨n, rfl⟩ := h1
  refine ⟨tv, blk_put (cs := #[fv, tv, .bool b]) (blk_drewN hx n) 2 _ rfl, Kd.S_mono (Kd.S_far (Kd.S_drewN hT n) (fun k hk e => hgT (by have e' : k = g := e; rwa [e'] at hk)) _) (fun k h => .inl h), below_set (pw_below_drewN hB n) hg, Kept.setCell (Kept.drewN (Kept.refl _ _) n) (.inl (.inl rfl)) _⟩
set_option maxHeartbeats 8000000 in
set_option maxRecDepth 100000 in
theorem pkI_put.bad (K : Nat) (okT : Nat → Prop) (g : Nat) (tv : Value) (A : Option Addr) (c : Nat) (ns t : List S64) (b : Bool) (a : Int) (w0 W : World) (hK : K ≤ 11) (hB : Below w0.heap.size w0 W) (hg : w0.heap.size ≤ g) (hr : Kd.C k64 w0 A ns.length ns) (hx : W.heap[g]? = some (.cells #[.slice A ns.length c, tv, .bool b] 49 (0, 0)))
    (hT : Kd.S k64 64 W w0.heap.size okT tv t) (hgT : ¬ okT g) (hbad : K = 0 ∨ b = true ∨ ¬ (0 ≤ a ∧ a < (ns.length : Int)) ∨ 300 ≤ t.length) : Calls Try.prog 17 #[.pointer (some ⟨g, 0, none⟩), .int .i64 a, .int .i64 (11 - (K : Int))] W fun e W' => ∃ tv', e = .returned (.int .i64 (pkI_put ns K a t b).1) ∧ W'.heap[g]? = some (.cells #[.slice A ns.length c, tv', .bool (pkI_put ns K a t b).2.2] 49 (0, 0)) ∧ Kd.S k64 64 W' w0.heap.size (fun k => okT k ∨ W.heap.size ≤ k) tv' (pkI_put ns K a t b).2.1 ∧ Below w0.heap.size w0 W' ∧ Kept W W' (fun k => k = g ∨ okT k) := by
 rw [pkI_bad ns K a t b hbad]
 have HX := As.mk hx
 have hn : ns.length ≤ 9223372036854775807 := hr.2.1
 have EX := As.mk (fun (n : Nat) => pk_exit hB hg hx hT hgT ⟨n, rfl⟩)
 obtain ⟨At, ct, et⟩ := Kd.S_slice hT
 subst et
 obtain ⟨hc0, hc1, hc2, hf0, hf1, hf2⟩ := cl3x hx
 have hlt : t.length ≤ 9223372036854775807 := Kd.F_max (Kd.S_F hT)
 clear hT hB hx hgT hr hg
 by_cases cb : b = true
 ·
  subst cb
  clear hbad
  go_enter Try.func17, Try.ntmps17
  go_wp2_with (fail)
  go_ret
  obtain ⟨tv', h1, h2, h3, h4⟩ := EX.out 0
  exact ⟨tv', rfl, h1, h2, h3, h4⟩
 replace cb := Bool.eq_false_iff.mpr cb
 subst cb
 obtain ⟨q, hq⟩ : ∃ q, q = decide (0 ≤ a ∧ a < (ns.length : Int)) := ⟨_, rfl⟩
 have HIN := As.mk (show impl_in.f a 0 (wrap64 ((ns.length : Int) - 1)) = some q by rw [pk_in hn, hq])
 cases q with
 | false =>
  clear hbad hq hn
  go_enter Try.func17, Try.ntmps17
  go_wp2_with (fail)
  refine (impl_in.calls a 0 (wrap64 ((ns.length : Int) - 1)) false _ HIN.out).mono ?_
  rintro e w' ⟨rfl, ⟨nd, rfl⟩⟩
  clear hc0 hc1 hc2 hf0 hf1 hf2
  obtain ⟨hc0, hc1, hc2, hf0, hf1, hf2⟩ := cl3x (blk_drewN HX.out nd)
  go_wp2_with (fail)
  go_ret
  obtain ⟨tv', h1, h2, h3, h4⟩ := EX.out _
  exact ⟨tv', rfl, h1, h2, h3, h4⟩
 | true =>
  by_cases cd : K = 0
  ·
   have hd : decide ((10 : Int) < 11 - (K : Int)) = true := decide_eq_true (by omega)
   clear hbad hq hn cd
   go_enter Try.func17, Try.ntmps17
   go_wp2_with (fail)
   refine (impl_in.calls a 0 (wrap64 ((ns.length : Int) - 1)) true _ HIN.out).mono ?_
   rintro e w' ⟨rfl, ⟨nd, rfl⟩⟩
   clear hc0 hc1 hc2 hf0 hf1 hf2
   obtain ⟨hc0, hc1, hc2, hf0, hf1, hf2⟩ := cl3x (blk_drewN HX.out nd)
   go_wp2_with (fail)
   go_ret
   obtain ⟨tv', h1, h2, h3, h4⟩ := EX.out _
   exact ⟨tv', rfl, h1, h2, h3, h4⟩
  have hd : decide ((10 : Int) < 11 - (K : Int)) = false := decide_eq_false (by omega)
  have hl : decide ((300 : Int) ≤ (t.length : Int)) = true := decide_eq_true (by
   have := of_decide_eq_true hq.symm
   rcases hbad with h | h | h | h
   · exact absurd h cd
   · cases h
   · exact absurd this h
   · omega)
  clear hbad hq hn cd
  go_enter Try.func17, Try.ntmps17
  go_wp2_with (fail)
  refine (impl_in.calls a 0 (wrap64 ((ns.length : Int) - 1)) true _ HIN.out).mono ?_
  rintro e w' ⟨rfl, ⟨nd, rfl⟩⟩
  clear hc0 hc1 hc2 hf0 hf1 hf2
  obtain ⟨hc0, hc1, hc2, hf0, hf1, hf2⟩ := cl3x (blk_drewN HX.out nd)
  go_wp2_with (fail)
  go_ret
  obtain ⟨tv', h1, h2, h3, h4⟩ := EX.out _
  exact ⟨tv', rfl, h1, h2, h3, h4⟩
/-! the main way -/
theorem rdI_nat (xs : List Int) (i : Nat) (h : i < xs.length) : rd xs (i : Int) = xs[i] := by
  unfold rd; rw [Int.toNat_natCast, List.getD_eq_getElem?_getD, List.getElem?_eq_getElem h]; rfl
theorem pkI_kids_at (f : Int → List S64 → Bool → Int × List S64 × Bool) (cs : List Int) (x : Int) (j : Nat) (hx : x = (j : Int)) (hj : j < cs.length) (t : List S64) (out : List Int) (r : Int × List S64 × Bool) (hr : f (rd cs x) t false = r) :
    pkI_kids f (cs.drop j) t out = if r.2.2 = true then (r.2.1, true, out) else pkI_kids f (cs.drop (j + 1)) r.2.1 (out ++ [r.1]) := by
  subst hx
  rw [rdI_nat cs j hj] at hr
  rw [List.drop_eq_getElem_cons hj, pkI_kids, hr]
abbrev pkQ (okT : Nat → Prop) (g : Nat) (A : Option Addr) (c : Nat) (ns : List S64) (res : Int × List S64 × Bool) (w0 W : World) (e : Ending) (W' : World) : Prop :=
  ∃ tv', e = .returned (.int .i64 res.1) ∧ W'.heap[g]? = some (.cells #[.slice A ns.length c, tv', .bool res.2.2] 49 (0, 0)) ∧ Kd.S k64 64 W' w0.heap.size (fun k => okT k ∨ W.heap.size ≤ k) tv' res.2.1 ∧ Below w0.heap.size w0 W' ∧ Kept W W' (fun k => k = g ∨ okT k)
theorem pk_start {okT : Nat → Prop} {g nb : Nat} {tv fv : Value} {t : List S64} {w0 W W2 w7 : World} {z0 z1 z2 z3 n0 n1 n2 n3 : Value} (hx : W2.heap[g]? = some (.cells #[fv, tv, .bool false] 49 (0, 0))) (hT : Kd.S k64 64 W2 w0.heap.size okT tv t) (hB : Below w0.heap.size w0 W2) (hK : Kept W W2 (fun k => k = g ∨ okT k)) (hnb : nb = W2.heap.size)
    (hbx : Below W2.heap.size W2 w7) (bk : w7.heap[nb]? = some (.cells #[z0, z1, z2, z3] 64 (0, 0))) (w8 : World) (hw : ((((w7.setCell ⟨nb, 0, none⟩ n0).setCell ⟨nb, 1, none⟩ n1).setCell ⟨nb, 2, none⟩ n2).setCell ⟨nb, 3, none⟩ n3) = w8) :
    w8.heap[g]? = some (.cells #[fv, tv, .bool false] 49 (0, 0)) ∧ w8.heap[nb]? = some (.cells #[n0, n1, n2, n3] 64 (0, 0)) ∧ Kd.S k64 64 w8 w0.heap.size okT tv t ∧ Below w0.heap.size w0 w8 ∧ Kept W w8 (fun k => k = g ∨ okT k) := by
  have hb : Below W2.heap.size W2 w8 := by
    rw [← hw]
    have l : W2.heap.size ≤ nb := Nat.le_of_eq hnb.symm
    exact below_set (below_set (below_set (below_set hbx l) l) l) l
  refine ⟨blk_below hx hb, ?_, Kd.S_below hT hb, below_step hB hb, hK.below hb⟩
  rw [← hw]
  exact blk_put (cs := #[n0, n1, n2, z3]) (blk_put (cs := #[n0, n1, z2, z3]) (blk_put (cs := #[n0, z1, z2, z3]) (blk_put (cs := #[z0, z1, z2, z3]) bk 0 _ rfl) 1 _ rfl) 2 _ rfl) 3 _ rfl
set_option maxHeartbeats 8000000 in
set_option maxRecDepth 100000 in
theorem pkI_put.calls (K : Nat) : ∀ (okT : Nat → Prop) (g : Nat) (tv : Value) (A : Option Addr) (c : Nat) (ns t : List S64) (b : Bool) (a : Int) (w0 W : World) (hK : K ≤ 11) (hB : Below w0.heap.size w0 W) (hg : w0.heap.size ≤ g) (hr : Kd.C k64 w0 A ns.length ns) (hx : W.heap[g]? = some (.cells #[.slice A ns.length c, tv, .bool b] 49 (0, 0)))
    (hT : Kd.S k64 64 W w0.heap.size okT tv t) (hgT : ¬ okT g), Calls Try.prog 17 #[.pointer (some ⟨g, 0, none⟩), .int .i64 a, .int .i64 (11 - (K : Int))] W fun e W' => ∃ tv', e = .returned (.int .i64 (pkI_put ns K a t b).1) ∧ W'.heap[g]? = some (.cells #[.slice A ns.length c, tv', .bool (pkI_put ns K a t b).2.2] 49 (0, 0)) ∧ Kd.S k64 64 W' w0.heap.size (fun k => okT k ∨ W.heap.size ≤ k) tv' (pkI_put ns K a t b).2.1 ∧ Below w0.heap.size w0 W' ∧ Kept W W' (fun k => k = g ∨ okT k) := by
 induction K with
 | zero => exact fun okT g tv A c ns t b a w0 W hK hB hg hr hx hT hgT => pkI_put.bad 0 okT g tv A c ns t b a w0 W hK hB hg hr hx hT hgT (.inl rfl)
 | succ K IH =>
 intro okT1 g tv A c ns t b a w0 W hK hB hg hr hx hT1 hgT1
 obtain ⟨okT, hok1, hokW, hT⟩ : ∃ okT : Nat → Prop, (∀ k, okT k → okT1 k) ∧ (∀ k, okT k → k < W.heap.size) ∧ Kd.S k64 64 W w0.heap.size okT tv t := ⟨_, fun k h => h.1, fun k h => h.2.2.1, Kd.S_bound hT1⟩
 have hgT : ¬ okT g := fun h => hgT1 (hok1 g h)
 suffices hS : Calls Try.prog 17 #[.pointer (some ⟨g, 0, none⟩), .int .i64 a, .int .i64 (11 - ((K + 1 : Nat) : Int))] W (pkQ okT g A c ns (pkI_put ns (K + 1) a t b) w0 W) from hS.mono (fun e W' h => by
  obtain ⟨tv', h1, h2, h3, h4, h5⟩ := h
  exact ⟨tv', h1, h2, Kd.S_mono h3 (fun k h => h.imp (hok1 k) id), h4, h5.mono (fun k h => h.imp id (hok1 k))⟩)
 clear hT1 hgT1
 have HOW := As.mk hokW
 have HGW := As.mk (blk_lt hx)
 clear hokW hok1
 by_cases hbad : b = true ∨ ¬ (0 ≤ a ∧ a < (ns.length : Int)) ∨ 300 ≤ t.length
 · exact pkI_put.bad (K + 1) okT g tv A c ns t b a w0 W hK hB hg hr hx hT hgT (.inr hbad)
 generalize hres : pkI_put ns (K + 1) a t b = res
 rw [pkI_put, if_neg hbad] at hres
 have HRES := As.mk hres
 clear hres
 have hb : b = false := by cases b with | false => rfl | true => exact absurd (.inl rfl) hbad
 have ha : 0 ≤ a ∧ a < (ns.length : Int) := Classical.byContradiction fun h => hbad (.inr (.inl h))
 have htl : t.length < 300 := Nat.lt_of_not_le fun h => hbad (.inr (.inr h))
 clear hbad
 subst hb
 have HX := As.mk hx
 have HT := As.mk hT
 have HB := As.mk hB
 have HG := As.mk hg
 have HR := As.mk hr
 have HNT := As.mk hgT
 have hn : ns.length ≤ 9223372036854775807 := hr.2.1
 have HIN := As.mk (show impl_in.f a 0 (wrap64 ((ns.length : Int) - 1)) = some true by rw [pk_in hn, decide_eq_true ha])
 have hd : decide ((10 : Int) < 11 - ((K + 1 : Nat) : Int)) = false := decide_eq_false (by omega)
 have hl : decide ((300 : Int) ≤ (t.length : Int)) = false := decide_eq_false (by omega)
 have c0b : decide (0 ≤ a) = true := decide_eq_true ha.1
 have c1b : decide (a < (ns.length : Int)) = true := decide_eq_true ha.2
 obtain ⟨At, ct, et⟩ := Kd.S_slice hT
 subst et
 obtain ⟨hc0, hc1, hc2, hf0, hf1, hf2⟩ := cl3x hx
 clear hT hB hx hgT hr hg hn ha
 go_enter Try.func17, Try.ntmps17
 go_wp2_with (fail)
 refine (impl_in.calls a 0 (wrap64 ((ns.length : Int) - 1)) true _ HIN.out).mono ?_
 rintro e w' ⟨rfl, ⟨nd, rfl⟩⟩
 have HX2 := As.mk (blk_drewN HX.out nd)
 have HT2 := As.mk (Kd.S_drewN HT.out nd)
 have HB2 := As.mk (pw_below_drewN HB.out nd)
 have HK2 := As.mk (Kept.drewN (Kept.refl W (fun k => k = g ∨ okT k)) nd)
 have HS2 := As.mk (show W.heap.size ≤ (W.drewN nd).heap.size from Nat.le_refl _)
 clear hc0 hc1 hc2 hf0 hf1 hf2 HX HT HB
 generalize W.drewN nd = W2 at HX2 HT2 HB2 HK2 HS2 ⊢
 obtain ⟨hc0, hc1, hc2, hf0, hf1, hf2⟩ := cl3x HX2.out
 obtain ⟨ad, A3, c3, e3, hx0, hx1, hx2, hx3, hl3, hi3⟩ := at_T64 HR.out a (of_decide_eq_true c0b) (of_decide_eq_true c1b)
 replace hx0 := ce HB2.out hx0
 replace hx1 := ce HB2.out hx1
 replace hx2 := ce HB2.out hx2
 replace hx3 := ce HB2.out hx3
 have HI := As.mk hi3
 have HL := As.mk hl3
 clear hi3 hl3
 cases e3
 have p0 := eq_true (of_decide_eq_true c0b)
 have q0 := eq_true (of_decide_eq_true c1b)
 go_wp2_with (first | ((with_reducible refine gate_dst (N := 7) rfl ?_); refine box_event ?hg (N := 7) ?hd (cs := #[.int .i64 0, .int .i64 0, .string (⟨#[]⟩ : ByteArray), .slice none 0 0]) (t := 64) ?hr ?_; (case hd => rfl); (case hg => rfl); (case hr => first | (go_simp; done) | (go_simp; rfl)); intro nb hg w7 hbox hb; have BK := As.mk hbox; have HNB := As.mk hg; have HBX := As.mk hb; clear hb hbox hg; obtain ⟨hcz8_0, hcz8_1, hcz8_2, hcz8_3, hfz8_0, hfz8_1, hfz8_2, hfz8_3⟩ := cl4x BK.out))
 generalize hw : ((((w7.setCell ⟨nb, 0, none⟩ (.int .i64 (rd_T64 ns a).f0)).setCell ⟨nb, 1, none⟩ (.int .i64 (rd_T64 ns a).f1)).setCell ⟨nb, 2, none⟩ (.string (rd_T64 ns a).f2)).setCell ⟨nb, 3, none⟩ (.slice A3 (rd_T64 ns a).f3.length c3)) = w8
 obtain ⟨hx8, hn8, hT8, hB8, hK8⟩ := pk_start HX2.out HT2.out HB2.out HK2.out HNB.out HBX.out BK.out w8 hw
 have HN0 := As.mk (show W.heap.size ≤ nb by rw [HNB.out]; exact HS2.out)
 clear hw hx0 hx1 hx2 hx3 hcz8_0 hcz8_1 hcz8_2 hcz8_3 hfz8_0 hfz8_1 hfz8_2 hfz8_3 hc0 hc1 hc2 hf0 hf1 hf2 BK HBX HX2 HT2 HB2 HK2
 have HX8 := As.mk hx8
 have HN8 := As.mk hn8
 have HT8 := As.mk hT8
 have HB8 := As.mk hB8
 have HK8 := As.mk hK8
 clear hx8 hn8 hT8 hB8 hK8
 go_loopg [8, 52] (rd_T64 ns a).f3.length (fun kq v8 v52 wr => ∃ (x : Int) (j : Nat) (out : List Int) (tc : List S64) (tv : Value), v52 = .int .i64 x ∧ As (x = (j : Int)) ∧ As (kq + j = (rd_T64 ns a).f3.length) ∧ As (out.length = j) ∧ As (out.length ≤ tc.length ∧ tc.length ≤ 300) ∧ As (pkI_kids (pkI_put ns K) ((rd_T64 ns a).f3.drop j) tc out = pkI_kids (pkI_put ns K) (rd_T64 ns a).f3 t []) ∧ As (wr.heap[g]? = some (.cells #[.slice (some ad) ns.length c, tv, .bool false] 49 (0, 0))) ∧ As (wr.heap[nb]? = some (.cells #[.int .i64 (rd_T64 ns a).f0, .int .i64 (rd_T64 ns a).f1, .string (rd_T64 ns a).f2, .slice A3 (rd_T64 ns a).f3.length c3] 64 (0, 0))) ∧ As (Kd.S k64 64 wr w0.heap.size (fun k => okT k ∨ (W.heap.size ≤ k ∧ k ≠ nb ∧ some k ≠ v8.ownBlock)) tv tc) ∧ As (Kd.R (Kd.int .i64) 3 wr w0.heap.size (fun k => W.heap.size ≤ k ∧ k ≠ nb) v8 out) ∧ As (Below w0.heap.size w0 wr) ∧ As (Kept W wr (fun k => k = g ∨ okT k)))
 case atStart => exact ⟨0, 0, [], t, _, rfl, ⟨rfl⟩, ⟨by omega⟩, ⟨rfl⟩, ⟨Nat.zero_le _, Nat.le_of_lt htl⟩, ⟨by rw [List.drop_zero]⟩, HX8, HN8, ⟨Kd.S_mono HT8.out (fun k h => .inl h)⟩, ⟨Kd.R_nil _ _ _ _ _⟩, HB8, HK8⟩
 case round =>
  obtain ⟨x, j, out, tc, tv, rfl, HXJ, HJ, HOL, HTL, HE, HXr, HNr, HTr, HRr, HBr, HKr⟩ := hrel
  clear HX8 HN8 HT8 HB8 HK8
  obtain ⟨Ar, cr, er⟩ := Kd.S_slice HTr.out
  subst er
  obtain ⟨hc0, hc1, hc2, hf0, hf1, hf2⟩ := cl3x HXr.out
  have HLm := As.mk (show (rd_T64 ns a).f3.length ≤ 9223372036854775807 from HI.out.2.1)
  by_cases hj : x < ((rd_T64 ns a).f3.length : Int)
  ·
   have c2b0 : decide (x < ((rd_T64 ns a).f3.length : Int)) = true := decide_eq_true hj
   have p1 : 0 ≤ x := by have := HXJ.out; omega
   obtain ⟨ad1, e1, hk1⟩ := Kd.at_int (Kd.C_below HI.out HBr.out) x p1 hj
   subst e1
   have p1b : (0 ≤ x) = True := eq_true p1
   have q1b : (x < ((rd_T64 ns a).f3.length : Int)) = True := eq_true hj
   have hd1 : wrap64 (11 - ((K : Int) + 1) + 1) = 11 - (K : Int) := by unfold wrap64; omega
   have HJX := As.mk (show j < (rd_T64 ns a).f3.length by have := HXJ.out; omega)
   clear hj p1
   go_wp2_with (fail)
   rw [show (11 - ((K : Int) + 1) + 1) = 11 - (K : Int) by omega]
   have hng : ¬ (okT g ∨ (W.heap.size ≤ g ∧ g ≠ nb ∧ some g ≠ u8.ownBlock)) := fun h => h.elim HNT.out (fun h => by have := HGW.out; omega)
   refine (IH (fun k => okT k ∨ (W.heap.size ≤ k ∧ k ≠ nb ∧ some k ≠ u8.ownBlock)) g (.slice Ar tc.length cr) (some ad) c ns tc false (rd (rd_T64 ns a).f3 x) w0 wr (by omega) HBr.out HG.out HR.out HXr.out HTr.out hng).mono ?_
   generalize hr3 : pkI_put ns K (rd (rd_T64 ns a).f3 x) tc false = r3
   have HKA := As.mk (pkI_kids_at (pkI_put ns K) _ x j HXJ.out HJX.out tc out r3 hr3)
   have HGD := As.mk (pkI_good ns K (rd (rd_T64 ns a).f3 x) tc false)
   rw [hr3] at HGD
   clear hr3
   obtain ⟨p3, t3, b3⟩ := r3
   rintro e w3 ⟨tv3, rfl, hx3, hT3, hB3, hK3⟩
   dsimp only at hx3 hT3 HKA HGD
   have HX3 := As.mk hx3
   have HT3 := As.mk hT3
   have HB3 := As.mk hB3
   have HK3 := As.mk hK3
   clear hc0 hc1 hc2 hf0 hf1 hf2 hx3 hT3 hB3 hK3
   obtain ⟨Ar3, cr3, er3⟩ := Kd.S_slice HT3.out
   subst er3
   obtain ⟨hc0, hc1, hc2, hf0, hf1, hf2⟩ := cl3x HX3.out
   cases b3 with
   | true =>
    go_wp2_with (fail)
    go_ret
    have hk : pkI_kids (pkI_put ns K) (rd_T64 ns a).f3 t [] = (t3, true, out) := by rw [← HE.out, HKA.out, if_pos trivial]
    have hres := HRES.out
    rw [hk, if_pos (.inl rfl)] at hres
    subst hres
    exact ⟨_, rfl, HX3.out, Kd.S_mono HT3.out (fun k h => h.elim (fun h => h.imp id (fun h => h.1)) (fun h => .inr (Nat.le_trans HKr.out.1 h))), HB3.out, HKr.out.then_ HK3.out (fun k h => h.elim (fun h => .inl (.inl h)) (fun h => h.elim (fun h => .inl (.inr h)) (fun h => .inr h.1)))⟩
   | false =>
    have HOWN := As.mk (fun k (hk : u8.ownBlock = some k) => (Kd.R_bound HRr.out).1 k hk)
    have HR3 := As.mk (show Kd.R (Kd.int .i64) 3 w3 w0.heap.size (fun k => W.heap.size ≤ k ∧ k ≠ nb) u8 out from Kd.R_mono (Kd.R_kept (Kd.R_tight rfl HRr.out) HK3.out (fun k hk hS => by
     have h1 := HOWN.out k hk.symm
     have h2 := HGW.out
     rcases hS with hS | hS | hS
     · have := h1.1.1; omega
     · have := HOW.out k hS; have := h1.1.1; omega
     · exact hS.2.2 hk)) (fun k hk => (HOWN.out k hk.symm).1))
    have HNL := As.mk (blk_lt HNr.out)
    have HN3 := As.mk ((HK3.out.2 nb HNL.out (fun hS => by
     have h1 := HN0.out
     have h2 := HGW.out
     rcases hS with hS | hS | hS
     · omega
     · have := HOW.out nb hS; omega
     · exact hS.2.1 rfl)).trans HNr.out)
    have HSZ := As.mk HK3.out.1
    have HSW := As.mk HKr.out.1
    have LM := As.mk (show out.length < 17592186044416 by have := HTL.out; omega)
    go_wp2_with (first | ((with_reducible refine gate_builtin (b := .append) (xs := #[.tmp 65, .tmp 67]) rfl ?_); (try (refine gate_guard (by rfl) ?_; dsimp only)); at_builtin; refine Kd.R_append (Kd.int .i64) (w0 := w0) w0.heap.size rfl (.tmp 65) (.tmp 67) 56 3 (.int .i64 0) 8 rfl Try.underlying56 info3 rfl (by decide) (by omega) u8 out p3 [.int .i64 p3] (fun k => W.heap.size ≤ k ∧ k ≠ nb) (fun _ => False) rfl rfl ?aP (fun _ hk => hk.elim) ?aF ?aO ?aB ?aS ?aL ?_; (case aP => exact rfl); (case aB => exact HB3.out); (case aF => exact (fun k hk => by have := HSZ.out; have := HSW.out; have := HNL.out; exact ⟨by omega, by omega⟩)); (case aO => exact HR3.out); (case aS => exact (below_size HB3.out)); (case aL => have := LM.out; omega); intro v163 w37 ho hb hg hat))
    have KA : Kept w3 w37 (fun k => some k = u8.ownBlock) := Kept.of_grown hg (Kept.refl _ _) (fun k h => .inl h.symm)
    have hX4 := (KA.2 g (blk_lt HX3.out) (fun h => by have := (HOWN.out g h.symm).1.1; have := HGW.out; omega)).trans HX3.out
    have hN4 := (KA.2 nb (blk_lt HN3.out) (fun h => (HOWN.out nb h.symm).1.2 rfl)).trans HN3.out
    have hT4 : Kd.S k64 64 w37 w0.heap.size (fun k => okT k ∨ (W.heap.size ≤ k ∧ k ≠ nb ∧ some k ≠ v163.ownBlock)) (.slice Ar3 t3.length cr3) t3 := by
     have hne : ∀ k, (okT k ∨ (W.heap.size ≤ k ∧ k ≠ nb ∧ some k ≠ u8.ownBlock)) ∨ wr.heap.size ≤ k → ¬ some k = u8.ownBlock := fun k h e => by
      have h1 := HOWN.out k e.symm
      rcases h with (h | h) | h
      · have := HOW.out k h; have := h1.1.1; omega
      · exact h.2.2 e
      · have := h1.2.2.1; omega
     refine Kd.S_mono (Kd.S_kept (Kd.S_bound HT3.out) KA (fun k h => hne k h.1)) (fun k h => ?_)
     have h3 : some k ≠ v163.ownBlock := fun e => by
      rcases hat with hat | ⟨q, hq, hl⟩
      · exact hne k h.1 (e.trans hat)
      · rw [hq] at e; cases e; have := h.2.2.1; omega
     have h4 := HNL.out
     have h5 := HSW.out
     rcases h.1 with (h1 | h1) | h1
     · exact .inl h1
     · exact .inr ⟨h1.1, h1.2.1, h3⟩
     · exact .inr ⟨by omega, by omega, h3⟩
    have hK4 : Kept W w37 (fun k => k = g ∨ okT k) := (HKr.out.then_ HK3.out (fun k h => h.elim (fun h => .inl (.inl h)) (fun h => h.elim (fun h => .inl (.inr h)) (fun h => .inr h.1)))).then_ KA (fun k h => .inr (HOWN.out k h.symm).1.1)
    go_roundg (gk - 1)
    case measure => have := HJ.out; have := HJX.out; omega
    case rel => exact ⟨_, j + 1, out ++ [p3], t3, _, rfl, ⟨by have := HXJ.out; have := HJX.out; have := HLm.out; first | omega | (unfold wrap64; omega)⟩, ⟨by have := HJ.out; have := HJX.out; omega⟩, ⟨by rw [List.length_append, HOL.out]; rfl⟩, ⟨by have h1 := HGD.out.resolve_left (by simp); have h2 := HTL.out; rw [List.length_append, List.length_singleton]; omega⟩, ⟨by rw [← HE.out, HKA.out, if_neg (by simp)]⟩, ⟨hX4⟩, ⟨hN4⟩, ⟨hT4⟩, ⟨ho⟩, ⟨hb⟩, ⟨hK4⟩⟩
  ·
   have c2b0 : decide (x < ((rd_T64 ns a).f3.length : Int)) = false := decide_eq_false hj
   have hjl : j = (rd_T64 ns a).f3.length := by have := HXJ.out; have := HJ.out; omega
   have HE2 := As.mk (show pkI_kids (pkI_put ns K) (rd_T64 ns a).f3 t [] = (tc, false, out) by rw [← HE.out, hjl, List.drop_length]; rfl)
   clear hj hjl
   obtain ⟨Ao, co, eo⟩ := Kd.R_slice HRr.out
   subst eo
   obtain ⟨n0, n1, n2, n3, m0, m1, m2, m3⟩ := cl4x HNr.out
   have HNE := As.mk (show nb ≠ g by have := HN0.out; have := HGW.out; omega)
   have hne1 := HNE.out
   have hne2 := HNE.out.symm
   by_cases hfull : 300 ≤ tc.length
   ·
    have c3b0 : decide ((300 : Int) ≤ (tc.length : Int)) = true := decide_eq_true (by omega)
    go_wp2_with (fail)
    go_ret
    have hres := HRES.out
    rw [HE2.out, if_pos (.inr hfull)] at hres
    subst hres
    have hb1 : Below w0.heap.size w0 (wr.setCell ⟨g, 2, none⟩ (.bool true)) := below_set HBr.out HG.out
    exact ⟨_, rfl, blk_put (cs := #[_, _, .bool false]) HXr.out 2 _ rfl, Kd.S_mono (Kd.S_far HTr.out (fun k h e => by
      have e' : k = g := e
      subst e'
      exact h.elim HNT.out (fun h => by have := HGW.out; omega)) _) (fun k h => h.imp id (fun h => h.1)), hb1, HKr.out.setCell (.inl (.inl rfl)) _⟩
   have c3b0 : decide ((300 : Int) ≤ (tc.length : Int)) = false := decide_eq_false (by omega)
   go_wp2_with (fail)
   generalize hw9 : wr.setCell ⟨nb, 3, none⟩ (.slice Ao out.length co) = w9
   have HX9 := As.mk (show w9.heap[g]? = some (.cells #[.slice (some ad) ns.length c, .slice Ar tc.length cr, .bool false] 49 (0, 0)) by rw [← hw9]; exact blk_far HXr.out hne2 _)
   have HN9 := As.mk (show w9.heap[nb]? = some (.cells #[.int .i64 (rd_T64 ns a).f0, .int .i64 (rd_T64 ns a).f1, .string (rd_T64 ns a).f2, .slice Ao out.length co] 64 (0, 0)) by rw [← hw9]; exact blk_put (cs := #[_, _, _, .slice A3 (rd_T64 ns a).f3.length c3]) HNr.out 3 _ rfl)
   have HT9 := As.mk (show Kd.S k64 64 w9 w0.heap.size (fun k => okT k ∨ (W.heap.size ≤ k ∧ k ≠ nb ∧ some k ≠ (.slice Ao out.length co : Value).ownBlock)) (.slice Ar tc.length cr) tc by
    rw [← hw9]
    exact Kd.S_far HTr.out (fun k h e => by
     have e' : k = nb := e
     have h1 := HN0.out
     rcases h with h | h
     · have := HOW.out k h; omega
     · exact h.2.1 e') _)
   have HR9 := As.mk (show Kd.R (Kd.int .i64) 3 w9 w0.heap.size (fun k => W.heap.size ≤ k ∧ k ≠ nb) (.slice Ao out.length co) out by rw [← hw9]; exact Kd.R_far HRr.out (fun k h => h.2) _)
   have HB9 := As.mk (show Below w0.heap.size w0 w9 by rw [← hw9]; exact below_set HBr.out (Nat.le_of_lt (Nat.lt_of_le_of_lt HG.out (Nat.lt_of_lt_of_le HGW.out HN0.out))))
   have HK9 := As.mk (show Kept W w9 (fun k => k = g ∨ okT k) by rw [← hw9]; exact HKr.out.setCell (.inr HN0.out) _)
   clear hw9 hc0 hc1 hc2 hf0 hf1 hf2 n0 n1 n2 n3 m0 m1 m2 m3 HXr HNr HTr HRr HBr HKr
   replace HX9 := As.mk (blk_drew HX9.out)
   replace HN9 := As.mk (blk_drew HN9.out)
   replace HT9 := As.mk (Kd.S_drew HT9.out)
   replace HR9 := As.mk (Kd.R_drew HR9.out)
   replace HB9 := As.mk (below_drew1 HB9.out)
   replace HK9 := As.mk (Kept.drew HK9.out)
   refine start_ (n := 11) (S := fun w' => w'.cell? ⟨g, 0, none⟩ = some (.slice (some ad) ns.length c) ∧ w'.cell? ⟨g, 1, none⟩ = some (.slice Ar tc.length cr) ∧ w'.cell? ⟨nb, 0, none⟩ = some (.int .i64 (rd_T64 ns a).f0) ∧ w'.cell? ⟨nb, 1, none⟩ = some (.int .i64 (rd_T64 ns a).f1) ∧ w'.cell? ⟨nb, 2, none⟩ = some (.string (rd_T64 ns a).f2) ∧ w'.cell? ⟨nb, 3, none⟩ = some (.slice Ao out.length co)) (ds := [10]) #[O,O,O,O,O,O,O,O,O,O,O] (by kernel_rfl) rfl rfl ⟨(blk_cell HX9.out 0).trans rfl, (blk_cell HX9.out 1).trans rfl, (blk_cell HN9.out 0).trans rfl, (blk_cell HN9.out 1).trans rfl, (blk_cell HN9.out 2).trans rfl, (blk_cell HN9.out 3).trans rfl⟩ (fun hHeld => ?_)
   generalize w9.drew = w10 at HX9 HN9 HT9 HR9 HB9 HK9 hHeld ⊢
   refine pure_ (i := 0) (N := some 81) (v := ?_) (a' := ?_) #[I,O,O,O,O,O,O,O,O,O,O] rfl rfl (by kernel_rfl) (fun _ _ _ h => h) (Or.inl ⟨by rfl, ?_⟩) ?_ ?_
   rotate_left; · intro w'; go_simp; with_reducible rfl
   rotate_left; · simp only [pk, i64_w, i32_w]; rfl
   refine pure_ (i := 1) (N := some 82) (v := ?_) (a' := ?_) #[I,I,O,O,O,O,O,O,O,O,O] rfl rfl (by kernel_rfl) (fun _ _ _ h => h) (Or.inl ⟨by rfl, ?_⟩) ?_ ?_
   rotate_left; · intro w'; go_simp; with_reducible rfl
   rotate_left; · simp only [pk, i64_w, i32_w]; rfl
   refine pure_ (i := 2) (N := some 83) (v := ?_) (a' := ?_) #[I,I,I,O,O,O,O,O,O,O,O] rfl rfl (by kernel_rfl) (fun _ _ _ h => h) (Or.inl ⟨by rfl, ?_⟩) ?_ ?_
   rotate_left; · intro w'; go_simp; with_reducible rfl
   rotate_left; · simp only [pk, i64_w, i32_w]; rfl
   refine pure_ (i := 3) (N := some 84) (v := ?_) (a' := ?_) #[I,I,I,I,O,O,O,O,O,O,O] rfl rfl (by kernel_rfl) (fun _ _ _ h => h) (Or.inl ⟨by rfl, ?_⟩) ?_ ?_
   rotate_left; · intro w'; go_simp; with_reducible rfl
   rotate_left; · simp only [pk, i64_w, i32_w]; rfl
   refine take_ (i := 4) (N := some 85) (v := ?_) (a' := ?_) #[I,I,I,I,I,O,O,O,O,O,O] rfl rfl (by kernel_rfl) (fun _ _ _ h => h) (Or.inl ⟨by rfl, ?_⟩) hHeld ?_ ?_
   rotate_left; · rintro w' ⟨s0, s1, s2, s3, s4, s5⟩; go_simp; with_reducible rfl
   rotate_left; · simp only [pk, i64_w, i32_w]; rfl
   refine take_ (i := 5) (N := some 86) (v := ?_) (a' := ?_) #[I,I,I,I,I,I,O,O,O,O,O] rfl rfl (by kernel_rfl) (fun _ _ _ h => h) (Or.inl ⟨by rfl, ?_⟩) hHeld ?_ ?_
   rotate_left; · rintro w' ⟨s0, s1, s2, s3, s4, s5⟩; go_simp; with_reducible rfl
   rotate_left; · simp only [pk, i64_w, i32_w]; rfl
   refine one_ (i := 6) (N := some 87) #[I,I,I,I,I,I,I,O,O,O,O] rfl rfl (by kernel_rfl) (by decide) (fun K hK => ?_)
   refine value_ (w1 := ?_) (v := ?_) (by rfl) rfl ?_ ?_
   rotate_left 2
   ·
    go_simp
    constructor
    · rfl
    · rfl
   refine hK.out _ _ ⟨(blk_cell (blk_alloc HX9.out _) 0).trans rfl, (blk_cell (blk_alloc HX9.out _) 1).trans rfl, (blk_cell (blk_alloc HN9.out _) 0).trans rfl, (blk_cell (blk_alloc HN9.out _) 1).trans rfl, (blk_cell (blk_alloc HN9.out _) 2).trans rfl, (blk_cell (blk_alloc HN9.out _) 3).trans rfl⟩ (fun hHeld => ?_)
   clear hK K
   refine norm_ (a' := ?_) ?_ ?_
   rotate_left
   ·
    show Act.put _ (some 87) _ = _
    simp only [pk, i64_w, i32_w]
    rfl
   have HTO := As.mk (fun k (hk : (.slice Ar tc.length cr : Value).ownBlock = some k) => (Kd.S_R HT9.out).1 k hk)
   have HRO := As.mk (fun k (hk : (.slice Ao out.length co : Value).ownBlock = some k) => HR9.out.1 k hk)
   refine one_ (i := 7) (N := some 88) #[I,I,I,I,I,I,I,I,O,O,O] rfl rfl (by kernel_rfl) (by decide) (fun K hK => ?_)
   refine Kd.S_append_step k64 (w0 := w0) w0.heap.size (by rfl) (.tmp 85) (.tmp 87) 27 64 (.agg #[(.int .i64 0), (.int .i64 0), (.string ⟨#[]⟩), (.slice none 0 0)]) 56 rfl Try.underlying27 info64 rfl (by decide) (by omega) (.slice Ar tc.length cr) tc (⟨(rd_T64 ns a).f0, (rd_T64 ns a).f1, (rd_T64 ns a).f2, out⟩ : S64) [.int .i64 ((rd_T64 ns a).f0), .int .i64 ((rd_T64 ns a).f1), .string ((rd_T64 ns a).f2), .slice Ao out.length co] (fun k => okT k ∨ W.heap.size ≤ k) (fun k_ => some k_ = (.slice Ao out.length co : Value).ownBlock) rfl rfl ?aP ?aK ?aF ?aO ?aB ?aS ?aL ?_
   (case aP => exact k64_mkM _ _ _ (⟨(rd_T64 ns a).f0, (rd_T64 ns a).f1, (rd_T64 ns a).f2, out⟩ : S64) (Kd.R_tight rfl HR9.out))
   (case aK =>
    intro k hk
    have h1 := HRO.out k hk.symm
    refine ⟨.inr h1.1, fun e => ?_⟩
    rcases HTO.out k e.symm with h | h
    · have := HOW.out k h; have := h1.1; omega
    · exact h.2.2 hk)
   (case aF => exact fun k hk => .inr (Nat.le_trans HK9.out.1 hk))
   (case aO => exact Kd.S_mono HT9.out (fun k h => ⟨h.imp id (fun h => h.1), fun e => by
     have h1 := HRO.out k e.symm
     rcases h with h | h
     · have := HOW.out k h; have := h1.1; omega
     · exact h.2.2 e⟩))
   (case aB => exact HB9.out)
   (case aS => exact below_size HB9.out)
   (case aL => omega)
   intro v88 w11 ho hb hg hat
   have KA : Kept w10 w11 (fun k => some k = (.slice Ar tc.length cr : Value).ownBlock) := Kept.of_grown hg (Kept.refl _ _) (fun k h => .inl h.symm)
   have HX11 := As.mk ((KA.2 g (blk_lt HX9.out) (fun h => (HTO.out g h.symm).elim HNT.out (fun h => by have := HGW.out; omega))).trans HX9.out)
   have HN11 := As.mk ((KA.2 nb (blk_lt HN9.out) (fun h => (HTO.out nb h.symm).elim (fun h => by have := HOW.out nb h; have := HN0.out; omega) (fun h => h.2.1 rfl))).trans HN9.out)
   have HT11 := As.mk ho
   have HB11 := As.mk hb
   have HK11 := As.mk (show Kept W w11 (fun k => k = g ∨ okT k) from HK9.out.then_ KA (fun k h => (HTO.out k h.symm).elim (fun h => .inl (.inr h)) (fun h => .inr h.1)))
   clear ho hb hg hat KA
   obtain ⟨A8, c8, e8⟩ := Kd.S_slice HT11.out
   subst e8
   refine hK.out _ _ ⟨(blk_cell HX11.out 0).trans rfl, (blk_cell HX11.out 1).trans rfl, (blk_cell HN11.out 0).trans rfl, (blk_cell HN11.out 1).trans rfl, (blk_cell HN11.out 2).trans rfl, (blk_cell HN11.out 3).trans rfl⟩ (fun hHeld => ?_)
   clear hK K
   refine norm_ (a' := ?_) ?_ ?_
   rotate_left
   ·
    show Act.put _ (some 88) _ = _
    simp only [pk, i64_w, i32_w]
    rfl
   refine pure_ (i := 8) (N := some 89) (v := ?_) (a' := ?_) #[I,I,I,I,I,I,I,I,I,O,O] rfl rfl (by kernel_rfl) (fun _ _ _ h => h) (Or.inl ⟨by rfl, ?_⟩) ?_ ?_
   rotate_left; · intro w'; go_simp; with_reducible rfl
   rotate_left; · simp only [pk, i64_w, i32_w]; rfl
   refine pure_ (i := 9) (N := some 90) (v := ?_) (a' := ?_) #[I,I,I,I,I,I,I,I,I,I,O] rfl rfl (by kernel_rfl) (fun _ _ _ h => h) (Or.inl ⟨by rfl, ?_⟩) ?_ ?_
   rotate_left; · intro w'; go_simp; with_reducible rfl
   rotate_left; · simp only [pk, i64_w, i32_w]; rfl
   refine last_ (i := 10) (N := none) #[I,I,I,I,I,I,I,I,I,I,I] rfl rfl (by kernel_rfl) (by decide) (fun K hK => ?_)
   obtain ⟨hc0, hc1, hc2, hf0, hf1, hf2⟩ := cl3x HX11.out
   refine skip_ (w1 := ?_) (by rfl) rfl ?_ ?_
   rotate_left; · go_simp; rfl
   refine hK.out _ _ ?_
   clear hK K
   refine done_ (by kernel_rfl) ?_
   have hlen : (tc ++ [(⟨(rd_T64 ns a).f0, (rd_T64 ns a).f1, (rd_T64 ns a).f2, out⟩ : S64)]).length = tc.length + 1 := by rw [List.length_append, List.length_singleton]
   have HX12 := As.mk (show (w11.setCell ⟨g, 1, none⟩ (.slice A8 (tc.length + 1) c8)).heap[g]? = some (.cells #[.slice (some ad) ns.length c, .slice A8 (tc.length + 1) c8, .bool false] 49 (0, 0)) from blk_put (cs := #[.slice (some ad) ns.length c, .slice Ar tc.length cr, .bool false]) HX11.out 1 _ rfl)
   have hT12 := HT11.out
   rw [hlen] at hT12
   have HT12 := As.mk hT12
   clear hT12 hlen HT11
   go_wp2_with (fail)
   go_ret
   have hres := HRES.out
   rw [HE2.out] at hres
   dsimp only at hres
   rw [if_neg (by rintro (h | h); · cases h
                  · exact hfull h)] at hres
   subst hres
   refine ⟨_, ?_, HX12.out, Kd.S_far HT12.out (fun k h e => by
    have e' : k = g := e
    subst e'
    exact h.elim HNT.out (fun h => by have := HGW.out; omega)) _, below_set HB11.out HG.out, HK11.out.setCell (.inl (.inl rfl)) _⟩
   first | rfl | (congr 2; omega) | (congr 2; unfold wrap64; omega)

theorem pks_in {a : Int} {n : Nat} (hn : n ≤ 9223372036854775807) : spec_l01In.f a 0 (wrap64 ((n : Int) - 1)) = some (decide (0 ≤ a ∧ a < (n : Int))) := by
  have e : wrap64 ((n : Int) - 1) = (n : Int) - 1 := by unfold wrap64; omega
  rw [spec_l01In.f, e]
  by_cases c : a ≥ 0
  · rw [if_pos c]; congr 1; exact decide_eq_decide.2 (by omega)
  · rw [if_neg c, decide_eq_false (by omega)]
theorem pkS_bad (ns : List S64) (K : Nat) (a : Int) (t : List S64) (b : Bool) (h : K = 0 ∨ b = true ∨ ¬ (0 ≤ a ∧ a < (ns.length : Int)) ∨ 300 < t.length) : pkS_put ns K a t b = (-1, t, true) := by
  cases K with
  | zero => rfl
  | succ K => rw [pkS_put, if_pos (h.resolve_left (by omega))]
/-- What the packer's state is behind a call that gives up. -/
theorem pks_exit {okT : Nat → Prop} {g : Nat} {tv fv : Value} {t : List S64} {b : Bool} {w0 W W1 : World} (hB : Below w0.heap.size w0 W) (hg : w0.heap.size ≤ g) (hx : W.heap[g]? = some (.cells #[fv, tv, .bool b] 41 (0, 0))) (hT : Kd.S k64 64 W w0.heap.size okT tv t) (hgT : ¬ okT g) (h1 : ∃ n, W1 = (W.drewN n).setCell ⟨g, 2, none⟩ (.bool true)) :
    ∃ tv', W1.heap[g]? = some (.cells #[fv, tv', .bool true] 41 (0, 0)) ∧ Kd.S k64 64 W1 w0.heap.size (fun k => okT k ∨ W.heap.size ≤ k) tv' t ∧ Below w0.heap.size w0 W1 ∧ Kept W W1 (fun k => k = g ∨ okT k) := by
  obtain ⟨n, rfl⟩ := h1
  refine ⟨tv, blk_put (cs := #[fv, tv, .bool b]) (blk_drewN hx n) 2 _ rfl, Kd.S_mono (Kd.S_far (Kd.S_drewN hT n) (fun k hk e => hgT (by have e' : k = g := e; rwa [e'] at hk)) _) (fun k h => .inl h), below_set (pw_below_drewN hB n) hg, Kept.setCell (Kept.drewN (Kept.refl _ _) n) (.inl (.inl rfl)) _⟩
set_option maxHeartbeats 8000000 in
set_option maxRecDepth 100000 in
theorem pkS_put.bad (K : Nat) (okT : Nat → Prop) (g : Nat) (tv : Value) (A : Option Addr) (c : Nat) (ns t : List S64) (b : Bool) (a : Int) (w0 W : World) (hK : K ≤ 11) (hB : Below w0.heap.size w0 W) (hg : w0.heap.size ≤ g) (hr : Kd.C k64 w0 A ns.length ns) (hx : W.heap[g]? = some (.cells #[.slice A ns.length c, tv, .bool b] 41 (0, 0)))
    (hT : Kd.S k64 64 W w0.heap.size okT tv t) (hgT : ¬ okT g) (hbad : K = 0 ∨ b = true ∨ ¬ (0 ≤ a ∧ a < (ns.length : Int)) ∨ 300 < t.length) : Calls Try.prog 13 #[.pointer (some ⟨g, 0, none⟩), .int .i64 a, .int .i64 (11 - (K : Int))] W fun e W' => ∃ tv', e = .returned (.int .i64 (pkS_put ns K a t b).1) ∧ W'.heap[g]? = some (.cells #[.slice A ns.length c, tv', .bool (pkS_put ns K a t b).2.2] 41 (0, 0)) ∧ Kd.S k64 64 W' w0.heap.size (fun k => okT k ∨ W.heap.size ≤ k) tv' (pkS_put ns K a t b).2.1 ∧ Below w0.heap.size w0 W' ∧ Kept W W' (fun k => k = g ∨ okT k) := by
 rw [pkS_bad ns K a t b hbad]
 have HX := As.mk hx
 have hn : ns.length ≤ 9223372036854775807 := hr.2.1
 have EX := As.mk (fun (n : Nat) => pks_exit hB hg hx hT hgT ⟨n, rfl⟩)
 obtain ⟨At, ct, et⟩ := Kd.S_slice hT
 subst et
 obtain ⟨hc0, hc1, hc2, hf0, hf1, hf2⟩ := cl3x hx
 have hlt : t.length ≤ 9223372036854775807 := Kd.F_max (Kd.S_F hT)
 clear hT hB hx hgT hr hg
 by_cases cb : b = true
 ·
  subst cb
  clear hbad
  go_enter Try.func13, Try.ntmps13
  go_wp2_with (fail)
  go_ret
  obtain ⟨tv', h1, h2, h3, h4⟩ := EX.out 0
  exact ⟨tv', rfl, h1, h2, h3, h4⟩
 replace cb := Bool.eq_false_iff.mpr cb
 subst cb
 by_cases cd : K = 0
 ·
  have hd : decide ((10 : Int) < 11 - (K : Int)) = true := decide_eq_true (by omega)
  clear hbad cd hn
  go_enter Try.func13, Try.ntmps13
  go_wp2_with (fail)
  go_ret
  obtain ⟨tv', h1, h2, h3, h4⟩ := EX.out 0
  exact ⟨tv', rfl, h1, h2, h3, h4⟩
 have hd : decide ((10 : Int) < 11 - (K : Int)) = false := decide_eq_false (by omega)
 obtain ⟨q, hq⟩ : ∃ q, q = decide (0 ≤ a ∧ a < (ns.length : Int)) := ⟨_, rfl⟩
 have HIN := As.mk (show spec_l01In.f a 0 (wrap64 ((ns.length : Int) - 1)) = some q by rw [pks_in hn, hq])
 cases q with
 | false =>
  clear hbad hq hn
  go_enter Try.func13, Try.ntmps13
  go_wp2_with (fail)
  refine (spec_l01In.calls a 0 (wrap64 ((ns.length : Int) - 1)) false _ HIN.out).mono ?_
  rintro e w' ⟨rfl, ⟨nd, rfl⟩⟩
  clear hc0 hc1 hc2 hf0 hf1 hf2
  obtain ⟨hc0, hc1, hc2, hf0, hf1, hf2⟩ := cl3x (blk_drewN HX.out nd)
  go_wp2_with (fail)
  go_ret
  obtain ⟨tv', h1, h2, h3, h4⟩ := EX.out _
  exact ⟨tv', rfl, h1, h2, h3, h4⟩
 | true =>
  have hl : decide ((300 : Int) < (t.length : Int)) = true := decide_eq_true (by
   have := of_decide_eq_true hq.symm
   rcases hbad with h | h | h | h
   · exact absurd h cd
   · cases h
   · exact absurd this h
   · omega)
  clear hbad hq hn cd
  go_enter Try.func13, Try.ntmps13
  go_wp2_with (fail)
  refine (spec_l01In.calls a 0 (wrap64 ((ns.length : Int) - 1)) true _ HIN.out).mono ?_
  rintro e w' ⟨rfl, ⟨nd, rfl⟩⟩
  clear hc0 hc1 hc2 hf0 hf1 hf2
  obtain ⟨hc0, hc1, hc2, hf0, hf1, hf2⟩ := cl3x (blk_drewN HX.out nd)
  go_wp2_with (fail)
  go_ret
  obtain ⟨tv', h1, h2, h3, h4⟩ := EX.out _
  exact ⟨tv', rfl, h1, h2, h3, h4⟩

/-! the main way -/
theorem rdI_nat2 (xs : List Int) (i : Nat) (h : i < xs.length) : rd xs (i : Int) = xs[i] := by
  unfold rd; rw [Int.toNat_natCast, List.getD_eq_getElem?_getD, List.getElem?_eq_getElem h]; rfl
theorem pkS_kids_at (f : Int → List S64 → Bool → Int × List S64 × Bool) (cs : List Int) (x : Int) (j : Nat) (hx : x = (j : Int)) (hj : j < cs.length) (t : List S64) (out : List Int) (r : Int × List S64 × Bool) (hr : f (rd cs x) t false = r) :
    pkS_kids f (cs.drop j) t false out = pkS_kids f (cs.drop (j + 1)) r.2.1 r.2.2 (out ++ [r.1]) := by
  subst hx
  rw [rdI_nat2 cs j hj] at hr
  rw [List.drop_eq_getElem_cons hj, pkS_kids, if_neg (by decide), hr]
theorem pkS_kids_stop (f : Int → List S64 → Bool → Int × List S64 × Bool) (cs : List Int) (t : List S64) (b : Bool) (out : List Int) (h : b = true ∨ cs = []) : pkS_kids f cs t b out = (t, b, out) := by
  cases cs with
  | nil => rfl
  | cons c r => rw [pkS_kids, if_pos (h.resolve_right (by simp))]
abbrev pkQs (okT : Nat → Prop) (g : Nat) (A : Option Addr) (c : Nat) (ns : List S64) (res : Int × List S64 × Bool) (w0 W : World) (e : Ending) (W' : World) : Prop :=
  ∃ tv', e = .returned (.int .i64 res.1) ∧ W'.heap[g]? = some (.cells #[.slice A ns.length c, tv', .bool res.2.2] 41 (0, 0)) ∧ Kd.S k64 64 W' w0.heap.size (fun k => okT k ∨ W.heap.size ≤ k) tv' res.2.1 ∧ Below w0.heap.size w0 W' ∧ Kept W W' (fun k => k = g ∨ okT k)
theorem pks_start {okT : Nat → Prop} {g nb : Nat} {tv fv : Value} {t : List S64} {w0 W W2 w7 : World} {z0 z1 z2 z3 n0 n1 n2 n3 : Value} (hx : W2.heap[g]? = some (.cells #[fv, tv, .bool false] 41 (0, 0))) (hT : Kd.S k64 64 W2 w0.heap.size okT tv t) (hB : Below w0.heap.size w0 W2) (hK : Kept W W2 (fun k => k = g ∨ okT k)) (hnb : nb = W2.heap.size)
    (hbx : Below W2.heap.size W2 w7) (bk : w7.heap[nb]? = some (.cells #[z0, z1, z2, z3] 64 (0, 0))) (w8 : World) (hw : ((((w7.setCell ⟨nb, 0, none⟩ n0).setCell ⟨nb, 1, none⟩ n1).setCell ⟨nb, 2, none⟩ n2).setCell ⟨nb, 3, none⟩ n3) = w8) :
    w8.heap[g]? = some (.cells #[fv, tv, .bool false] 41 (0, 0)) ∧ w8.heap[nb]? = some (.cells #[n0, n1, n2, n3] 64 (0, 0)) ∧ Kd.S k64 64 w8 w0.heap.size okT tv t ∧ Below w0.heap.size w0 w8 ∧ Kept W w8 (fun k => k = g ∨ okT k) := by
  have hb : Below W2.heap.size W2 w8 := by
    rw [← hw]
    have l : W2.heap.size ≤ nb := Nat.le_of_eq hnb.symm
    exact below_set (below_set (below_set (below_set hbx l) l) l) l
  refine ⟨blk_below hx hb, ?_, Kd.S_below hT hb, below_step hB hb, hK.below hb⟩
  rw [← hw]
  exact blk_put (cs := #[n0, n1, n2, z3]) (blk_put (cs := #[n0, n1, z2, z3]) (blk_put (cs := #[n0, z1, z2, z3]) (blk_put (cs := #[z0, z1, z2, z3]) bk 0 _ rfl) 1 _ rfl) 2 _ rfl) 3 _ rfl
set_option maxHeartbeats 8000000 in
set_option maxRecDepth 100000 in
theorem pkS_put.calls (K : Nat) : ∀ (okT : Nat → Prop) (g : Nat) (tv : Value) (A : Option Addr) (c : Nat) (ns t : List S64) (b : Bool) (a : Int) (w0 W : World) (hK : K ≤ 11) (hB : Below w0.heap.size w0 W) (hg : w0.heap.size ≤ g) (hr : Kd.C k64 w0 A ns.length ns) (hx : W.heap[g]? = some (.cells #[.slice A ns.length c, tv, .bool b] 41 (0, 0)))
    (hT : Kd.S k64 64 W w0.heap.size okT tv t) (hgT : ¬ okT g), Calls Try.prog 13 #[.pointer (some ⟨g, 0, none⟩), .int .i64 a, .int .i64 (11 - (K : Int))] W fun e W' => ∃ tv', e = .returned (.int .i64 (pkS_put ns K a t b).1) ∧ W'.heap[g]? = some (.cells #[.slice A ns.length c, tv', .bool (pkS_put ns K a t b).2.2] 41 (0, 0)) ∧ Kd.S k64 64 W' w0.heap.size (fun k => okT k ∨ W.heap.size ≤ k) tv' (pkS_put ns K a t b).2.1 ∧ Below w0.heap.size w0 W' ∧ Kept W W' (fun k => k = g ∨ okT k) := by
 induction K with
 | zero => exact fun okT g tv A c ns t b a w0 W hK hB hg hr hx hT hgT => pkS_put.bad 0 okT g tv A c ns t b a w0 W hK hB hg hr hx hT hgT (.inl rfl)
 | succ K IH =>
 intro okT1 g tv A c ns t b a w0 W hK hB hg hr hx hT1 hgT1
 obtain ⟨okT, hok1, hokW, hT⟩ : ∃ okT : Nat → Prop, (∀ k, okT k → okT1 k) ∧ (∀ k, okT k → k < W.heap.size) ∧ Kd.S k64 64 W w0.heap.size okT tv t := ⟨_, fun k h => h.1, fun k h => h.2.2.1, Kd.S_bound hT1⟩
 have hgT : ¬ okT g := fun h => hgT1 (hok1 g h)
 suffices hS : Calls Try.prog 13 #[.pointer (some ⟨g, 0, none⟩), .int .i64 a, .int .i64 (11 - ((K + 1 : Nat) : Int))] W (pkQs okT g A c ns (pkS_put ns (K + 1) a t b) w0 W) from hS.mono (fun e W' h => by
  obtain ⟨tv', h1, h2, h3, h4, h5⟩ := h
  exact ⟨tv', h1, h2, Kd.S_mono h3 (fun k h => h.imp (hok1 k) id), h4, h5.mono (fun k h => h.imp id (hok1 k))⟩)
 clear hT1 hgT1
 have HOW := As.mk hokW
 have HGW := As.mk (blk_lt hx)
 clear hokW hok1
 by_cases hbad : b = true ∨ ¬ (0 ≤ a ∧ a < (ns.length : Int)) ∨ 300 < t.length
 · exact pkS_put.bad (K + 1) okT g tv A c ns t b a w0 W hK hB hg hr hx hT hgT (.inr hbad)
 generalize hres : pkS_put ns (K + 1) a t b = res
 rw [pkS_put, if_neg hbad] at hres
 have HRES := As.mk hres
 clear hres
 have hb : b = false := by cases b with | false => rfl | true => exact absurd (.inl rfl) hbad
 have ha : 0 ≤ a ∧ a < (ns.length : Int) := Classical.byContradiction fun h => hbad (.inr (.inl h))
 have htl : t.length ≤ 300 := Nat.le_of_not_lt fun h => hbad (.inr (.inr h))
 clear hbad
 subst hb
 have HX := As.mk hx
 have HT := As.mk hT
 have HB := As.mk hB
 have HG := As.mk hg
 have HR := As.mk hr
 have HNT := As.mk hgT
 have hn : ns.length ≤ 9223372036854775807 := hr.2.1
 have HIN := As.mk (show spec_l01In.f a 0 (wrap64 ((ns.length : Int) - 1)) = some true by rw [pks_in hn, decide_eq_true ha])
 have hd : decide ((10 : Int) < 11 - ((K + 1 : Nat) : Int)) = false := decide_eq_false (by omega)
 have hl : decide ((300 : Int) < (t.length : Int)) = false := decide_eq_false (by omega)
 have c0b : decide (0 ≤ a) = true := decide_eq_true ha.1
 have c1b : decide (a < (ns.length : Int)) = true := decide_eq_true ha.2
 obtain ⟨At, ct, et⟩ := Kd.S_slice hT
 subst et
 obtain ⟨hc0, hc1, hc2, hf0, hf1, hf2⟩ := cl3x hx
 clear hT hB hx hgT hr hg hn ha
 go_enter Try.func13, Try.ntmps13
 go_wp2_with (fail)
 refine (spec_l01In.calls a 0 (wrap64 ((ns.length : Int) - 1)) true _ HIN.out).mono ?_
 rintro e w' ⟨rfl, ⟨nd, rfl⟩⟩
 have HX2 := As.mk (blk_drewN HX.out nd)
 have HT2 := As.mk (Kd.S_drewN HT.out nd)
 have HB2 := As.mk (pw_below_drewN HB.out nd)
 have HK2 := As.mk (Kept.drewN (Kept.refl W (fun k => k = g ∨ okT k)) nd)
 have HS2 := As.mk (show W.heap.size ≤ (W.drewN nd).heap.size from Nat.le_refl _)
 clear hc0 hc1 hc2 hf0 hf1 hf2 HX HT HB
 generalize W.drewN nd = W2 at HX2 HT2 HB2 HK2 HS2 ⊢
 obtain ⟨hc0, hc1, hc2, hf0, hf1, hf2⟩ := cl3x HX2.out
 obtain ⟨ad, A3, c3, e3, hx0, hx1, hx2, hx3, hl3, hi3⟩ := at_T64 HR.out a (of_decide_eq_true c0b) (of_decide_eq_true c1b)
 have HF3 := As.mk hx3
 replace hx0 := ce HB2.out hx0
 replace hx1 := ce HB2.out hx1
 replace hx2 := ce HB2.out hx2
 replace hx3 := ce HB2.out hx3
 have HI := As.mk hi3
 have HL := As.mk hl3
 clear hi3 hl3
 cases e3
 have p0 := eq_true (of_decide_eq_true c0b)
 have q0 := eq_true (of_decide_eq_true c1b)
 go_wp2_with (first | ((with_reducible refine gate_dst (N := 7) rfl ?_); refine box_event ?hg (N := 7) ?hd (cs := #[.int .i64 0, .int .i64 0, .string (⟨#[]⟩ : ByteArray), .slice none 0 0]) (t := 64) ?hr ?_; (case hd => rfl); (case hg => rfl); (case hr => first | (go_simp; done) | (go_simp; rfl)); intro nb hg w7 hbox hb; have BK := As.mk hbox; have HNB := As.mk hg; have HBX := As.mk hb; clear hb hbox hg; obtain ⟨hcz8_0, hcz8_1, hcz8_2, hcz8_3, hfz8_0, hfz8_1, hfz8_2, hfz8_3⟩ := cl4x BK.out))
 replace HX2 := As.mk (blk_drew HX2.out)
 replace HT2 := As.mk (Kd.S_drew HT2.out)
 replace HB2 := As.mk (below_drew1 HB2.out)
 replace HK2 := As.mk (Kept.drew HK2.out)
 have hdb : Below W2.heap.size W2 W2.drew := below_drew (Below.refl _ _)
 refine start_ (n := 27) (S := fun w' => w'.cell? ⟨g, 0, none⟩ = some (.slice (some ad) ns.length c) ∧ w'.cell? (ad.add (a.toNat * 4)) = some (.int .i64 (rd_T64 ns a).f0) ∧ w'.cell? ⟨(ad.add (a.toNat * 4)).block, (ad.add (a.toNat * 4)).off + 1, none⟩ = some (.int .i64 (rd_T64 ns a).f1) ∧ w'.cell? ⟨(ad.add (a.toNat * 4)).block, (ad.add (a.toNat * 4)).off + 2, none⟩ = some (.string (rd_T64 ns a).f2)) (ds := [26]) #[O,O,O,O,O,O,O,O,O,O,O,O,O,O,O,O,O,O,O,O,O,O,O,O,O,O,O] (by kernel_rfl) rfl rfl ⟨(blk_cell HX2.out 0).trans rfl, ce hdb hx0, ce hdb hx1, ce hdb hx2⟩ (fun hHeld => ?_)
 refine pure_ (i := 0) (N := some 40) (v := ?_) (a' := ?_) #[I,O,O,O,O,O,O,O,O,O,O,O,O,O,O,O,O,O,O,O,O,O,O,O,O,O,O] rfl rfl (by kernel_rfl) (fun _ _ _ h => h) (Or.inl ⟨by rfl, ?_⟩) ?_ ?_
 rotate_left; · intro w'; go_simp; with_reducible rfl
 rotate_left; · simp only [pk, i64_w, i32_w]; rfl
 refine pure_ (i := 1) (N := some 41) (v := ?_) (a' := ?_) #[I,I,O,O,O,O,O,O,O,O,O,O,O,O,O,O,O,O,O,O,O,O,O,O,O,O,O] rfl rfl (by kernel_rfl) (fun _ _ _ h => h) (Or.inl ⟨by rfl, ?_⟩) ?_ ?_
 rotate_left; · intro w'; go_simp; with_reducible rfl
 rotate_left; · simp only [pk, i64_w, i32_w]; rfl
 refine pure_ (i := 2) (N := some 42) (v := ?_) (a' := ?_) #[I,I,I,O,O,O,O,O,O,O,O,O,O,O,O,O,O,O,O,O,O,O,O,O,O,O,O] rfl rfl (by kernel_rfl) (fun _ _ _ h => h) (Or.inl ⟨by rfl, ?_⟩) ?_ ?_
 rotate_left; · intro w'; go_simp; with_reducible rfl
 rotate_left; · simp only [pk, i64_w, i32_w]; rfl
 refine take_ (i := 3) (N := some 43) (v := ?_) (a' := ?_) #[I,I,I,I,O,O,O,O,O,O,O,O,O,O,O,O,O,O,O,O,O,O,O,O,O,O,O] rfl rfl (by kernel_rfl) (fun _ _ _ h => h) (Or.inl ⟨by rfl, ?_⟩) hHeld ?_ ?_
 rotate_left; · rintro w' ⟨s0, s1, s2, s3⟩; go_simp; with_reducible rfl
 rotate_left; · simp only [pk, i64_w, i32_w]; rfl
 refine pure_ (i := 4) (N := some 44) (v := ?_) (a' := ?_) #[I,I,I,I,I,O,O,O,O,O,O,O,O,O,O,O,O,O,O,O,O,O,O,O,O,O,O] rfl rfl (by kernel_rfl) (fun _ _ _ h => h) (Or.inl ⟨by rfl, ?_⟩) ?_ ?_
 rotate_left; · intro w'; go_simp; with_reducible rfl
 rotate_left; · simp only [pk, i64_w, i32_w]; rfl
 refine pure_ (i := 5) (N := some 45) (v := ?_) (a' := ?_) #[I,I,I,I,I,I,O,O,O,O,O,O,O,O,O,O,O,O,O,O,O,O,O,O,O,O,O] rfl rfl (by kernel_rfl) (fun _ _ _ h => h) (Or.inl ⟨by rfl, ?_⟩) ?_ ?_
 rotate_left; · intro w'; go_simp; with_reducible rfl
 rotate_left; · simp only [pk, i64_w, i32_w]; rfl
 refine pure_ (i := 6) (N := some 46) (v := ?_) (a' := ?_) #[I,I,I,I,I,I,I,O,O,O,O,O,O,O,O,O,O,O,O,O,O,O,O,O,O,O,O] rfl rfl (by kernel_rfl) (fun _ _ _ h => h) (Or.inl ⟨by rfl, ?_⟩) ?_ ?_
 rotate_left; · intro w'; go_simp; with_reducible rfl
 rotate_left; · simp only [pk, i64_w, i32_w]; rfl
 refine take_ (i := 7) (N := some 47) (v := ?_) (a' := ?_) #[I,I,I,I,I,I,I,I,O,O,O,O,O,O,O,O,O,O,O,O,O,O,O,O,O,O,O] rfl rfl (by kernel_rfl) (fun _ _ _ h => h) (Or.inl ⟨by rfl, ?_⟩) hHeld ?_ ?_
 rotate_left; · rintro w' ⟨s0, s1, s2, s3⟩; go_simp; with_reducible rfl
 rotate_left; · simp only [pk, i64_w, i32_w]; rfl
 refine pure_ (i := 8) (N := some 48) (v := ?_) (a' := ?_) #[I,I,I,I,I,I,I,I,I,O,O,O,O,O,O,O,O,O,O,O,O,O,O,O,O,O,O] rfl rfl (by kernel_rfl) (fun _ _ _ h => h) (Or.inl ⟨by rfl, ?_⟩) ?_ ?_
 rotate_left; · intro w'; go_simp; with_reducible rfl
 rotate_left; · simp only [pk, i64_w, i32_w]; rfl
 refine pure_ (i := 9) (N := some 49) (v := ?_) (a' := ?_) #[I,I,I,I,I,I,I,I,I,I,O,O,O,O,O,O,O,O,O,O,O,O,O,O,O,O,O] rfl rfl (by kernel_rfl) (fun _ _ _ h => h) (Or.inl ⟨by rfl, ?_⟩) ?_ ?_
 rotate_left; · intro w'; go_simp; with_reducible rfl
 rotate_left; · simp only [pk, i64_w, i32_w]; rfl
 refine pure_ (i := 10) (N := some 50) (v := ?_) (a' := ?_) #[I,I,I,I,I,I,I,I,I,I,I,O,O,O,O,O,O,O,O,O,O,O,O,O,O,O,O] rfl rfl (by kernel_rfl) (fun _ _ _ h => h) (Or.inl ⟨by rfl, ?_⟩) ?_ ?_
 rotate_left; · intro w'; go_simp; with_reducible rfl
 rotate_left; · simp only [pk, i64_w, i32_w]; rfl
 refine take_ (i := 11) (N := some 51) (v := ?_) (a' := ?_) #[I,I,I,I,I,I,I,I,I,I,I,I,O,O,O,O,O,O,O,O,O,O,O,O,O,O,O] rfl rfl (by kernel_rfl) (fun _ _ _ h => h) (Or.inl ⟨by rfl, ?_⟩) hHeld ?_ ?_
 rotate_left; · rintro w' ⟨s0, s1, s2, s3⟩; go_simp; with_reducible rfl
 rotate_left; · simp only [pk, i64_w, i32_w]; rfl
 refine pure_ (i := 12) (N := some 52) (v := ?_) (a' := ?_) #[I,I,I,I,I,I,I,I,I,I,I,I,I,O,O,O,O,O,O,O,O,O,O,O,O,O,O] rfl rfl (by kernel_rfl) (fun _ _ _ h => h) (Or.inl ⟨by rfl, ?_⟩) ?_ ?_
 rotate_left; · intro w'; go_simp; with_reducible rfl
 rotate_left; · simp only [pk, i64_w, i32_w]; rfl
 refine pure_ (i := 13) (N := some 53) (v := ?_) (a' := ?_) #[I,I,I,I,I,I,I,I,I,I,I,I,I,I,O,O,O,O,O,O,O,O,O,O,O,O,O] rfl rfl (by kernel_rfl) (fun _ _ _ h => h) (Or.inl ⟨by rfl, ?_⟩) ?_ ?_
 rotate_left; · intro w'; go_simp; with_reducible rfl
 rotate_left; · simp only [pk, i64_w, i32_w]; rfl
 refine pure_ (i := 14) (N := some 54) (v := ?_) (a' := ?_) #[I,I,I,I,I,I,I,I,I,I,I,I,I,I,I,O,O,O,O,O,O,O,O,O,O,O,O] rfl rfl (by kernel_rfl) (fun _ _ _ h => h) (Or.inl ⟨by rfl, ?_⟩) ?_ ?_
 rotate_left; · intro w'; go_simp; with_reducible rfl
 rotate_left; · simp only [pk, i64_w, i32_w]; rfl
 refine take_ (i := 15) (N := some 55) (v := ?_) (a' := ?_) #[I,I,I,I,I,I,I,I,I,I,I,I,I,I,I,I,O,O,O,O,O,O,O,O,O,O,O] rfl rfl (by kernel_rfl) (fun _ _ _ h => h) (Or.inl ⟨by rfl, ?_⟩) hHeld ?_ ?_
 rotate_left; · rintro w' ⟨s0, s1, s2, s3⟩; go_simp; with_reducible rfl
 rotate_left; · simp only [pk, i64_w, i32_w]; rfl
 refine pure_ (i := 16) (N := some 56) (v := ?_) (a' := ?_) #[I,I,I,I,I,I,I,I,I,I,I,I,I,I,I,I,I,O,O,O,O,O,O,O,O,O,O] rfl rfl (by kernel_rfl) (fun _ _ _ h => h) (Or.inl ⟨by rfl, ?_⟩) ?_ ?_
 rotate_left; · intro w'; go_simp; with_reducible rfl
 rotate_left; · simp only [pk, i64_w, i32_w]; rfl
 refine pure_ (i := 17) (N := some 57) (v := ?_) (a' := ?_) #[I,I,I,I,I,I,I,I,I,I,I,I,I,I,I,I,I,I,O,O,O,O,O,O,O,O,O] rfl rfl (by kernel_rfl) (fun _ _ _ h => h) (Or.inl ⟨by rfl, ?_⟩) ?_ ?_
 rotate_left; · intro w'; go_simp; with_reducible rfl
 rotate_left; · simp only [pk, i64_w, i32_w]; rfl
 refine pure_ (i := 18) (N := some 58) (v := ?_) (a' := ?_) #[I,I,I,I,I,I,I,I,I,I,I,I,I,I,I,I,I,I,I,O,O,O,O,O,O,O,O] rfl rfl (by kernel_rfl) (fun _ _ _ h => h) (Or.inl ⟨by rfl, ?_⟩) ?_ ?_
 rotate_left; · intro w'; go_simp; with_reducible rfl
 rotate_left; · simp only [pk, i64_w, i32_w]; rfl
 refine take_ (i := 19) (N := some 59) (v := ?_) (a' := ?_) #[I,I,I,I,I,I,I,I,I,I,I,I,I,I,I,I,I,I,I,I,O,O,O,O,O,O,O] rfl rfl (by kernel_rfl) (fun _ _ _ h => h) (Or.inl ⟨by rfl, ?_⟩) hHeld ?_ ?_
 rotate_left; · rintro w' ⟨s0, s1, s2, s3⟩; go_simp; with_reducible rfl
 rotate_left; · simp only [pk, i64_w, i32_w]; rfl
 refine pure_ (i := 20) (N := some 60) (v := ?_) (a' := ?_) #[I,I,I,I,I,I,I,I,I,I,I,I,I,I,I,I,I,I,I,I,I,O,O,O,O,O,O] rfl rfl (by kernel_rfl) (fun _ _ _ h => h) (Or.inl ⟨by rfl, ?_⟩) ?_ ?_
 rotate_left; · intro w'; go_simp; with_reducible rfl
 rotate_left; · simp only [pk, i64_w, i32_w]; rfl
 refine pure_ (i := 21) (N := some 61) (v := ?_) (a' := ?_) #[I,I,I,I,I,I,I,I,I,I,I,I,I,I,I,I,I,I,I,I,I,I,O,O,O,O,O] rfl rfl (by kernel_rfl) (fun _ _ _ h => h) (Or.inl ⟨by rfl, ?_⟩) ?_ ?_
 rotate_left; · intro w'; go_simp; with_reducible rfl
 rotate_left; · simp only [pk, i64_w, i32_w]; rfl
 refine pure_ (i := 22) (N := some 62) (v := ?_) (a' := ?_) #[I,I,I,I,I,I,I,I,I,I,I,I,I,I,I,I,I,I,I,I,I,I,I,O,O,O,O] rfl rfl (by kernel_rfl) (fun _ _ _ h => h) (Or.inl ⟨by rfl, ?_⟩) ?_ ?_
 rotate_left; · intro w'; go_simp; with_reducible rfl
 rotate_left; · simp only [pk, i64_w, i32_w]; rfl
 refine take_ (i := 23) (N := some 63) (v := ?_) (a' := ?_) #[I,I,I,I,I,I,I,I,I,I,I,I,I,I,I,I,I,I,I,I,I,I,I,I,O,O,O] rfl rfl (by kernel_rfl) (fun _ _ _ h => h) (Or.inl ⟨by rfl, ?_⟩) hHeld ?_ ?_
 rotate_left; · rintro w' ⟨s0, s1, s2, s3⟩; go_simp; with_reducible rfl
 rotate_left; · simp only [pk, i64_w, i32_w]; rfl
 refine pure_ (i := 24) (N := some 64) (v := ?_) (a' := ?_) #[I,I,I,I,I,I,I,I,I,I,I,I,I,I,I,I,I,I,I,I,I,I,I,I,I,O,O] rfl rfl (by kernel_rfl) (fun _ _ _ h => h) (Or.inl ⟨by rfl, ?_⟩) ?_ ?_
 rotate_left; · intro w'; go_simp; with_reducible rfl
 rotate_left; · simp only [pk, i64_w, i32_w]; rfl
 refine one_ (i := 25) (N := some 7) #[I,I,I,I,I,I,I,I,I,I,I,I,I,I,I,I,I,I,I,I,I,I,I,I,I,I,O] rfl rfl (by kernel_rfl) (by decide) (fun K hK => ?_)
 refine box_step ?hg (N := 7) ?hd (cs := #[.int .i64 0, .int .i64 0, .string (⟨#[]⟩ : ByteArray), .slice none 0 0]) (t := 64) ?hr ?_; (case hd => rfl); (case hg => rfl); (case hr => first | (go_simp; done) | (go_simp; rfl))
 intro nb hg w7 hbox hb
 have BK := As.mk hbox
 have HNB := As.mk hg
 have HBX := As.mk hb
 have hh1 := ce hb hHeld.1
 have hh2 := ce hb hHeld.2.1
 have hh3 := ce hb hHeld.2.2.1
 have hh4 := ce hb hHeld.2.2.2
 clear hb hbox hg hHeld
 refine hK.out _ _ ⟨hh1, hh2, hh3, hh4⟩ (fun hHeld => ?_)
 clear hK K
 refine norm_ (a' := ?_) ?_ ?_
 rotate_left
 ·
  show Act.put _ (some 7) _ = _
  simp only [pk, i64_w, i32_w]
  rfl
 obtain ⟨hcz8_0, hcz8_1, hcz8_2, hcz8_3, hfz8_0, hfz8_1, hfz8_2, hfz8_3⟩ := cl4x BK.out
 refine last_ (i := 26) (N := none) #[I,I,I,I,I,I,I,I,I,I,I,I,I,I,I,I,I,I,I,I,I,I,I,I,I,I,I] rfl rfl (by kernel_rfl) (by decide) (fun K hK => ?_)
 refine skip_ (w1 := ?_) (by rfl) rfl ?_ ?_
 rotate_left; · go_simp; rfl
 refine hK.out _ _ ?_
 clear hK K
 refine done_ (by kernel_rfl) ?_
 generalize hw : ((((w7.setCell ⟨nb, 0, none⟩ (.int .i64 (rd_T64 ns a).f0)).setCell ⟨nb, 1, none⟩ (.int .i64 (rd_T64 ns a).f1)).setCell ⟨nb, 2, none⟩ (.string (rd_T64 ns a).f2)).setCell ⟨nb, 3, none⟩ (.slice none 0 0)) = w8
 obtain ⟨hx8, hn8, hT8, hB8, hK8⟩ := pks_start HX2.out HT2.out HB2.out HK2.out HNB.out HBX.out BK.out w8 hw
 have HN0 := As.mk (show W.heap.size ≤ nb by rw [HNB.out]; exact HS2.out)
 clear hw hx0 hx1 hx2 hx3 hcz8_0 hcz8_1 hcz8_2 hcz8_3 hfz8_0 hfz8_1 hfz8_2 hfz8_3 hc0 hc1 hc2 hf0 hf1 hf2 BK HBX HX2 HT2 HB2 HK2 hh1 hh2 hh3 hh4 hHeld hdb
 have HX8 := As.mk hx8
 have HN8 := As.mk hn8
 have HT8 := As.mk hT8
 have HB8 := As.mk hB8
 have HK8 := As.mk hK8
 clear hx8 hn8 hT8 hB8 hK8
 have HTL0 := As.mk htl
 go_wp2_with (fail)
 go_loopg [8] (rd_T64 ns a).f3.length (fun kq v8 wr => ∃ (x : Int) (j : Nat) (out : List Int) (tc : List S64) (tv uo : Value) (b : Bool), v8 = .int .i64 x ∧ As (x = (j : Int)) ∧ As (kq + j = (rd_T64 ns a).f3.length) ∧ As (out.length = j) ∧ As (out.length ≤ tc.length + (if b = true then 1 else 0) ∧ tc.length ≤ 301 + K) ∧ As (pkS_kids (pkS_put ns K) ((rd_T64 ns a).f3.drop j) tc b out = pkS_kids (pkS_put ns K) (rd_T64 ns a).f3 t false []) ∧ As (wr.heap[g]? = some (.cells #[.slice (some ad) ns.length c, tv, .bool b] 41 (0, 0))) ∧ As (wr.heap[nb]? = some (.cells #[.int .i64 (rd_T64 ns a).f0, .int .i64 (rd_T64 ns a).f1, .string (rd_T64 ns a).f2, uo] 64 (0, 0))) ∧ As (Kd.S k64 64 wr w0.heap.size (fun k => okT k ∨ (W.heap.size ≤ k ∧ k ≠ nb ∧ some k ≠ uo.ownBlock)) tv tc) ∧ As (Kd.R (Kd.int .i64) 3 wr w0.heap.size (fun k => W.heap.size ≤ k ∧ k ≠ nb) uo out) ∧ As (Below w0.heap.size w0 wr) ∧ As (Kept W wr (fun k => k = g ∨ okT k)))
 case atStart => exact ⟨0, 0, [], t, _, _, false, rfl, ⟨rfl⟩, ⟨by omega⟩, ⟨rfl⟩, ⟨Nat.zero_le _, by have := HTL0.out; omega⟩, ⟨by rw [List.drop_zero]⟩, HX8, HN8, ⟨Kd.S_mono HT8.out (fun k h => .inl h)⟩, ⟨Kd.R_nil _ _ _ _ _⟩, HB8, HK8⟩
 case round =>
  obtain ⟨x, j, out, tc, tv, uo, b, rfl, HXJ, HJ, HOL, HTL, HE, HXr, HNr, HTr, HRr, HBr, HKr⟩ := hrel
  clear HX8 HN8 HT8 HB8 HK8
  obtain ⟨Ar, cr, er⟩ := Kd.S_slice HTr.out
  subst er
  obtain ⟨Ao, co, eo⟩ := Kd.R_slice HRr.out
  subst eo
  have HNE := As.mk (show nb ≠ g by have := HN0.out; have := HGW.out; omega)
  have hx3 := ce HBr.out HF3.out
  have HLm := As.mk (show (rd_T64 ns a).f3.length ≤ 9223372036854775807 from HI.out.2.1)
  by_cases hstop : b = true ∨ ¬ x < ((rd_T64 ns a).f3.length : Int)
  ·
   have HE2 := As.mk (show pkS_kids (pkS_put ns K) (rd_T64 ns a).f3 t false [] = (tc, b, out) by
    rw [← HE.out, pkS_kids_stop _ _ _ _ _ (hstop.imp id (fun h => List.drop_eq_nil_of_le (by have := HXJ.out; omega)))])
   by_cases hx : x < ((rd_T64 ns a).f3.length : Int)
   ·
    have hbt : b = true := hstop.resolve_right (fun h => h hx)
    clear hstop
    have c2b0 : decide (x < ((rd_T64 ns a).f3.length : Int)) = true := decide_eq_true hx
    subst hbt
    obtain ⟨hc0, hc1, hc2, hf0, hf1, hf2⟩ := cl3x HXr.out
    obtain ⟨n0, n1, n2, n3, m0, m1, m2, m3⟩ := cl4x HNr.out
    clear hx
    go_wp2_with (fail)
    have HTC := As.mk (show tc.length < 1000 by have := HTL.out.2; omega)
    have HX9 := HXr
    have HN9 := HNr
    have HT9 := HTr
    have HR9 := HRr
    have HB9 := HBr
    have HK9 := HKr
    clear hc0 hc1 hc2 hf0 hf1 hf2 n0 n1 n2 n3 m0 m1 m2 m3 HXr HNr HTr HRr HBr HKr
    replace HX9 := As.mk (blk_drew HX9.out)
    replace HN9 := As.mk (blk_drew HN9.out)
    replace HT9 := As.mk (Kd.S_drew HT9.out)
    replace HR9 := As.mk (Kd.R_drew HR9.out)
    replace HB9 := As.mk (below_drew1 HB9.out)
    replace HK9 := As.mk (Kept.drew HK9.out)
    refine start_ (n := 11) (S := fun w' => w'.cell? ⟨g, 0, none⟩ = some (.slice (some ad) ns.length c) ∧ w'.cell? ⟨g, 1, none⟩ = some (.slice Ar tc.length cr) ∧ w'.cell? ⟨nb, 0, none⟩ = some (.int .i64 (rd_T64 ns a).f0) ∧ w'.cell? ⟨nb, 1, none⟩ = some (.int .i64 (rd_T64 ns a).f1) ∧ w'.cell? ⟨nb, 2, none⟩ = some (.string (rd_T64 ns a).f2) ∧ w'.cell? ⟨nb, 3, none⟩ = some (.slice Ao out.length co)) (ds := [10]) #[O,O,O,O,O,O,O,O,O,O,O] (by kernel_rfl) rfl rfl ⟨(blk_cell HX9.out 0).trans rfl, (blk_cell HX9.out 1).trans rfl, (blk_cell HN9.out 0).trans rfl, (blk_cell HN9.out 1).trans rfl, (blk_cell HN9.out 2).trans rfl, (blk_cell HN9.out 3).trans rfl⟩ (fun hHeld => ?_)
    generalize wr.drew = w10 at HX9 HN9 HT9 HR9 HB9 HK9 hHeld ⊢
    refine pure_ (i := 0) (N := some 106) (v := ?_) (a' := ?_) #[I,O,O,O,O,O,O,O,O,O,O] rfl rfl (by kernel_rfl) (fun _ _ _ h => h) (Or.inl ⟨by rfl, ?_⟩) ?_ ?_
    rotate_left; · intro w'; go_simp; with_reducible rfl
    rotate_left; · simp only [pk, i64_w, i32_w]; rfl
    refine pure_ (i := 1) (N := some 107) (v := ?_) (a' := ?_) #[I,I,O,O,O,O,O,O,O,O,O] rfl rfl (by kernel_rfl) (fun _ _ _ h => h) (Or.inl ⟨by rfl, ?_⟩) ?_ ?_
    rotate_left; · intro w'; go_simp; with_reducible rfl
    rotate_left; · simp only [pk, i64_w, i32_w]; rfl
    refine pure_ (i := 2) (N := some 108) (v := ?_) (a' := ?_) #[I,I,I,O,O,O,O,O,O,O,O] rfl rfl (by kernel_rfl) (fun _ _ _ h => h) (Or.inl ⟨by rfl, ?_⟩) ?_ ?_
    rotate_left; · intro w'; go_simp; with_reducible rfl
    rotate_left; · simp only [pk, i64_w, i32_w]; rfl
    refine pure_ (i := 3) (N := some 109) (v := ?_) (a' := ?_) #[I,I,I,I,O,O,O,O,O,O,O] rfl rfl (by kernel_rfl) (fun _ _ _ h => h) (Or.inl ⟨by rfl, ?_⟩) ?_ ?_
    rotate_left; · intro w'; go_simp; with_reducible rfl
    rotate_left; · simp only [pk, i64_w, i32_w]; rfl
    refine take_ (i := 4) (N := some 110) (v := ?_) (a' := ?_) #[I,I,I,I,I,O,O,O,O,O,O] rfl rfl (by kernel_rfl) (fun _ _ _ h => h) (Or.inl ⟨by rfl, ?_⟩) hHeld ?_ ?_
    rotate_left; · rintro w' ⟨s0, s1, s2, s3, s4, s5⟩; go_simp; with_reducible rfl
    rotate_left; · simp only [pk, i64_w, i32_w]; rfl
    refine take_ (i := 5) (N := some 111) (v := ?_) (a' := ?_) #[I,I,I,I,I,I,O,O,O,O,O] rfl rfl (by kernel_rfl) (fun _ _ _ h => h) (Or.inl ⟨by rfl, ?_⟩) hHeld ?_ ?_
    rotate_left; · rintro w' ⟨s0, s1, s2, s3, s4, s5⟩; go_simp; with_reducible rfl
    rotate_left; · simp only [pk, i64_w, i32_w]; rfl
    refine one_ (i := 6) (N := some 112) #[I,I,I,I,I,I,I,O,O,O,O] rfl rfl (by kernel_rfl) (by decide) (fun K hK => ?_)
    refine value_ (w1 := ?_) (v := ?_) (by rfl) rfl ?_ ?_
    rotate_left 2
    ·
     go_simp
     constructor
     · rfl
     · rfl
    refine hK.out _ _ ⟨(blk_cell (blk_alloc HX9.out _) 0).trans rfl, (blk_cell (blk_alloc HX9.out _) 1).trans rfl, (blk_cell (blk_alloc HN9.out _) 0).trans rfl, (blk_cell (blk_alloc HN9.out _) 1).trans rfl, (blk_cell (blk_alloc HN9.out _) 2).trans rfl, (blk_cell (blk_alloc HN9.out _) 3).trans rfl⟩ (fun hHeld => ?_)
    clear hK K
    refine norm_ (a' := ?_) ?_ ?_
    rotate_left
    ·
     show Act.put _ (some 112) _ = _
     simp only [pk, i64_w, i32_w]
     rfl
    have HTO := As.mk (fun k (hk : (.slice Ar tc.length cr : Value).ownBlock = some k) => (Kd.S_R HT9.out).1 k hk)
    have HRO := As.mk (fun k (hk : (.slice Ao out.length co : Value).ownBlock = some k) => HR9.out.1 k hk)
    refine one_ (i := 7) (N := some 113) #[I,I,I,I,I,I,I,I,O,O,O] rfl rfl (by kernel_rfl) (by decide) (fun K hK => ?_)
    refine Kd.S_append_step k64 (w0 := w0) w0.heap.size (by rfl) (.tmp 110) (.tmp 112) 27 64 (.agg #[(.int .i64 0), (.int .i64 0), (.string ⟨#[]⟩), (.slice none 0 0)]) 56 rfl Try.underlying27 info64 rfl (by decide) (by omega) (.slice Ar tc.length cr) tc (⟨(rd_T64 ns a).f0, (rd_T64 ns a).f1, (rd_T64 ns a).f2, out⟩ : S64) [.int .i64 ((rd_T64 ns a).f0), .int .i64 ((rd_T64 ns a).f1), .string ((rd_T64 ns a).f2), .slice Ao out.length co] (fun k => okT k ∨ W.heap.size ≤ k) (fun k_ => some k_ = (.slice Ao out.length co : Value).ownBlock) rfl rfl ?aP ?aK ?aF ?aO ?aB ?aS ?aL ?_
    (case aP => exact k64_mkM _ _ _ (⟨(rd_T64 ns a).f0, (rd_T64 ns a).f1, (rd_T64 ns a).f2, out⟩ : S64) (Kd.R_tight rfl HR9.out))
    (case aK =>
     intro k hk
     have h1 := HRO.out k hk.symm
     refine ⟨.inr h1.1, fun e => ?_⟩
     rcases HTO.out k e.symm with h | h
     · have := HOW.out k h; have := h1.1; omega
     · exact h.2.2 hk)
    (case aF => exact fun k hk => .inr (Nat.le_trans HK9.out.1 hk))
    (case aO => exact Kd.S_mono HT9.out (fun k h => ⟨h.imp id (fun h => h.1), fun e => by
      have h1 := HRO.out k e.symm
      rcases h with h | h
      · have := HOW.out k h; have := h1.1; omega
      · exact h.2.2 e⟩))
    (case aB => exact HB9.out)
    (case aS => exact below_size HB9.out)
    (case aL => have := HTC.out; omega)
    intro v88 w11 ho hb hg hat
    have KA : Kept w10 w11 (fun k => some k = (.slice Ar tc.length cr : Value).ownBlock) := Kept.of_grown hg (Kept.refl _ _) (fun k h => .inl h.symm)
    have HX11 := As.mk ((KA.2 g (blk_lt HX9.out) (fun h => (HTO.out g h.symm).elim HNT.out (fun h => by have := HGW.out; omega))).trans HX9.out)
    have HN11 := As.mk ((KA.2 nb (blk_lt HN9.out) (fun h => (HTO.out nb h.symm).elim (fun h => by have := HOW.out nb h; have := HN0.out; omega) (fun h => h.2.1 rfl))).trans HN9.out)
    have HT11 := As.mk ho
    have HB11 := As.mk hb
    have HK11 := As.mk (show Kept W w11 (fun k => k = g ∨ okT k) from HK9.out.then_ KA (fun k h => (HTO.out k h.symm).elim (fun h => .inl (.inr h)) (fun h => .inr h.1)))
    clear ho hb hg hat KA
    obtain ⟨A8, c8, e8⟩ := Kd.S_slice HT11.out
    subst e8
    refine hK.out _ _ ⟨(blk_cell HX11.out 0).trans rfl, (blk_cell HX11.out 1).trans rfl, (blk_cell HN11.out 0).trans rfl, (blk_cell HN11.out 1).trans rfl, (blk_cell HN11.out 2).trans rfl, (blk_cell HN11.out 3).trans rfl⟩ (fun hHeld => ?_)
    clear hK K
    refine norm_ (a' := ?_) ?_ ?_
    rotate_left
    ·
     show Act.put _ (some 113) _ = _
     simp only [pk, i64_w, i32_w]
     rfl
    refine pure_ (i := 8) (N := some 114) (v := ?_) (a' := ?_) #[I,I,I,I,I,I,I,I,I,O,O] rfl rfl (by kernel_rfl) (fun _ _ _ h => h) (Or.inl ⟨by rfl, ?_⟩) ?_ ?_
    rotate_left; · intro w'; go_simp; with_reducible rfl
    rotate_left; · simp only [pk, i64_w, i32_w]; rfl
    refine pure_ (i := 9) (N := some 115) (v := ?_) (a' := ?_) #[I,I,I,I,I,I,I,I,I,I,O] rfl rfl (by kernel_rfl) (fun _ _ _ h => h) (Or.inl ⟨by rfl, ?_⟩) ?_ ?_
    rotate_left; · intro w'; go_simp; with_reducible rfl
    rotate_left; · simp only [pk, i64_w, i32_w]; rfl
    refine last_ (i := 10) (N := none) #[I,I,I,I,I,I,I,I,I,I,I] rfl rfl (by kernel_rfl) (by decide) (fun K hK => ?_)
    obtain ⟨hc0, hc1, hc2, hf0, hf1, hf2⟩ := cl3x HX11.out
    refine skip_ (w1 := ?_) (by rfl) rfl ?_ ?_
    rotate_left; · go_simp; rfl
    refine hK.out _ _ ?_
    clear hK K
    refine done_ (by kernel_rfl) ?_
    have hlen : (tc ++ [(⟨(rd_T64 ns a).f0, (rd_T64 ns a).f1, (rd_T64 ns a).f2, out⟩ : S64)]).length = tc.length + 1 := by rw [List.length_append, List.length_singleton]
    have HX12 := As.mk (show (w11.setCell ⟨g, 1, none⟩ (.slice A8 (tc.length + 1) c8)).heap[g]? = some (.cells #[.slice (some ad) ns.length c, .slice A8 (tc.length + 1) c8, .bool true] 41 (0, 0)) from blk_put (cs := #[.slice (some ad) ns.length c, .slice Ar tc.length cr, .bool true]) HX11.out 1 _ rfl)
    have hT12 := HT11.out
    rw [hlen] at hT12
    have HT12 := As.mk hT12
    clear hT12 hlen HT11
    go_wp2_with (fail)
    go_ret
    have hres := HRES.out
    rw [HE2.out] at hres
    dsimp only at hres
    subst hres
    refine ⟨_, ?_, HX12.out, Kd.S_far HT12.out (fun k h e => by
     have e' : k = g := e
     subst e'
     exact h.elim HNT.out (fun h => by have := HGW.out; omega)) _, below_set HB11.out HG.out, HK11.out.setCell (.inl (.inl rfl)) _⟩
    exact congrArg (fun z => Ending.returned (.int .i64 z)) (show wrap64 (tc.length : Int) = (tc.length : Int) by have := HTC.out; unfold wrap64; omega)
   ·
    have c2b0 : decide (x < ((rd_T64 ns a).f3.length : Int)) = false := decide_eq_false hx
    clear hstop hx
    obtain ⟨hc0, hc1, hc2, hf0, hf1, hf2⟩ := cl3x HXr.out
    obtain ⟨n0, n1, n2, n3, m0, m1, m2, m3⟩ := cl4x HNr.out
    go_wp2_with (fail)
    have HTC := As.mk (show tc.length < 1000 by have := HTL.out.2; omega)
    have HX9 := HXr
    have HN9 := HNr
    have HT9 := HTr
    have HR9 := HRr
    have HB9 := HBr
    have HK9 := HKr
    clear hc0 hc1 hc2 hf0 hf1 hf2 n0 n1 n2 n3 m0 m1 m2 m3 HXr HNr HTr HRr HBr HKr
    replace HX9 := As.mk (blk_drew HX9.out)
    replace HN9 := As.mk (blk_drew HN9.out)
    replace HT9 := As.mk (Kd.S_drew HT9.out)
    replace HR9 := As.mk (Kd.R_drew HR9.out)
    replace HB9 := As.mk (below_drew1 HB9.out)
    replace HK9 := As.mk (Kept.drew HK9.out)
    refine start_ (n := 11) (S := fun w' => w'.cell? ⟨g, 0, none⟩ = some (.slice (some ad) ns.length c) ∧ w'.cell? ⟨g, 1, none⟩ = some (.slice Ar tc.length cr) ∧ w'.cell? ⟨nb, 0, none⟩ = some (.int .i64 (rd_T64 ns a).f0) ∧ w'.cell? ⟨nb, 1, none⟩ = some (.int .i64 (rd_T64 ns a).f1) ∧ w'.cell? ⟨nb, 2, none⟩ = some (.string (rd_T64 ns a).f2) ∧ w'.cell? ⟨nb, 3, none⟩ = some (.slice Ao out.length co)) (ds := [10]) #[O,O,O,O,O,O,O,O,O,O,O] (by kernel_rfl) rfl rfl ⟨(blk_cell HX9.out 0).trans rfl, (blk_cell HX9.out 1).trans rfl, (blk_cell HN9.out 0).trans rfl, (blk_cell HN9.out 1).trans rfl, (blk_cell HN9.out 2).trans rfl, (blk_cell HN9.out 3).trans rfl⟩ (fun hHeld => ?_)
    generalize wr.drew = w10 at HX9 HN9 HT9 HR9 HB9 HK9 hHeld ⊢
    refine pure_ (i := 0) (N := some 106) (v := ?_) (a' := ?_) #[I,O,O,O,O,O,O,O,O,O,O] rfl rfl (by kernel_rfl) (fun _ _ _ h => h) (Or.inl ⟨by rfl, ?_⟩) ?_ ?_
    rotate_left; · intro w'; go_simp; with_reducible rfl
    rotate_left; · simp only [pk, i64_w, i32_w]; rfl
    refine pure_ (i := 1) (N := some 107) (v := ?_) (a' := ?_) #[I,I,O,O,O,O,O,O,O,O,O] rfl rfl (by kernel_rfl) (fun _ _ _ h => h) (Or.inl ⟨by rfl, ?_⟩) ?_ ?_
    rotate_left; · intro w'; go_simp; with_reducible rfl
    rotate_left; · simp only [pk, i64_w, i32_w]; rfl
    refine pure_ (i := 2) (N := some 108) (v := ?_) (a' := ?_) #[I,I,I,O,O,O,O,O,O,O,O] rfl rfl (by kernel_rfl) (fun _ _ _ h => h) (Or.inl ⟨by rfl, ?_⟩) ?_ ?_
    rotate_left; · intro w'; go_simp; with_reducible rfl
    rotate_left; · simp only [pk, i64_w, i32_w]; rfl
    refine pure_ (i := 3) (N := some 109) (v := ?_) (a' := ?_) #[I,I,I,I,O,O,O,O,O,O,O] rfl rfl (by kernel_rfl) (fun _ _ _ h => h) (Or.inl ⟨by rfl, ?_⟩) ?_ ?_
    rotate_left; · intro w'; go_simp; with_reducible rfl
    rotate_left; · simp only [pk, i64_w, i32_w]; rfl
    refine take_ (i := 4) (N := some 110) (v := ?_) (a' := ?_) #[I,I,I,I,I,O,O,O,O,O,O] rfl rfl (by kernel_rfl) (fun _ _ _ h => h) (Or.inl ⟨by rfl, ?_⟩) hHeld ?_ ?_
    rotate_left; · rintro w' ⟨s0, s1, s2, s3, s4, s5⟩; go_simp; with_reducible rfl
    rotate_left; · simp only [pk, i64_w, i32_w]; rfl
    refine take_ (i := 5) (N := some 111) (v := ?_) (a' := ?_) #[I,I,I,I,I,I,O,O,O,O,O] rfl rfl (by kernel_rfl) (fun _ _ _ h => h) (Or.inl ⟨by rfl, ?_⟩) hHeld ?_ ?_
    rotate_left; · rintro w' ⟨s0, s1, s2, s3, s4, s5⟩; go_simp; with_reducible rfl
    rotate_left; · simp only [pk, i64_w, i32_w]; rfl
    refine one_ (i := 6) (N := some 112) #[I,I,I,I,I,I,I,O,O,O,O] rfl rfl (by kernel_rfl) (by decide) (fun K hK => ?_)
    refine value_ (w1 := ?_) (v := ?_) (by rfl) rfl ?_ ?_
    rotate_left 2
    ·
     go_simp
     constructor
     · rfl
     · rfl
    refine hK.out _ _ ⟨(blk_cell (blk_alloc HX9.out _) 0).trans rfl, (blk_cell (blk_alloc HX9.out _) 1).trans rfl, (blk_cell (blk_alloc HN9.out _) 0).trans rfl, (blk_cell (blk_alloc HN9.out _) 1).trans rfl, (blk_cell (blk_alloc HN9.out _) 2).trans rfl, (blk_cell (blk_alloc HN9.out _) 3).trans rfl⟩ (fun hHeld => ?_)
    clear hK K
    refine norm_ (a' := ?_) ?_ ?_
    rotate_left
    ·
     show Act.put _ (some 112) _ = _
     simp only [pk, i64_w, i32_w]
     rfl
    have HTO := As.mk (fun k (hk : (.slice Ar tc.length cr : Value).ownBlock = some k) => (Kd.S_R HT9.out).1 k hk)
    have HRO := As.mk (fun k (hk : (.slice Ao out.length co : Value).ownBlock = some k) => HR9.out.1 k hk)
    refine one_ (i := 7) (N := some 113) #[I,I,I,I,I,I,I,I,O,O,O] rfl rfl (by kernel_rfl) (by decide) (fun K hK => ?_)
    refine Kd.S_append_step k64 (w0 := w0) w0.heap.size (by rfl) (.tmp 110) (.tmp 112) 27 64 (.agg #[(.int .i64 0), (.int .i64 0), (.string ⟨#[]⟩), (.slice none 0 0)]) 56 rfl Try.underlying27 info64 rfl (by decide) (by omega) (.slice Ar tc.length cr) tc (⟨(rd_T64 ns a).f0, (rd_T64 ns a).f1, (rd_T64 ns a).f2, out⟩ : S64) [.int .i64 ((rd_T64 ns a).f0), .int .i64 ((rd_T64 ns a).f1), .string ((rd_T64 ns a).f2), .slice Ao out.length co] (fun k => okT k ∨ W.heap.size ≤ k) (fun k_ => some k_ = (.slice Ao out.length co : Value).ownBlock) rfl rfl ?aP ?aK ?aF ?aO ?aB ?aS ?aL ?_
    (case aP => exact k64_mkM _ _ _ (⟨(rd_T64 ns a).f0, (rd_T64 ns a).f1, (rd_T64 ns a).f2, out⟩ : S64) (Kd.R_tight rfl HR9.out))
    (case aK =>
     intro k hk
     have h1 := HRO.out k hk.symm
     refine ⟨.inr h1.1, fun e => ?_⟩
     rcases HTO.out k e.symm with h | h
     · have := HOW.out k h; have := h1.1; omega
     · exact h.2.2 hk)
    (case aF => exact fun k hk => .inr (Nat.le_trans HK9.out.1 hk))
    (case aO => exact Kd.S_mono HT9.out (fun k h => ⟨h.imp id (fun h => h.1), fun e => by
      have h1 := HRO.out k e.symm
      rcases h with h | h
      · have := HOW.out k h; have := h1.1; omega
      · exact h.2.2 e⟩))
    (case aB => exact HB9.out)
    (case aS => exact below_size HB9.out)
    (case aL => have := HTC.out; omega)
    intro v88 w11 ho hb hg hat
    have KA : Kept w10 w11 (fun k => some k = (.slice Ar tc.length cr : Value).ownBlock) := Kept.of_grown hg (Kept.refl _ _) (fun k h => .inl h.symm)
    have HX11 := As.mk ((KA.2 g (blk_lt HX9.out) (fun h => (HTO.out g h.symm).elim HNT.out (fun h => by have := HGW.out; omega))).trans HX9.out)
    have HN11 := As.mk ((KA.2 nb (blk_lt HN9.out) (fun h => (HTO.out nb h.symm).elim (fun h => by have := HOW.out nb h; have := HN0.out; omega) (fun h => h.2.1 rfl))).trans HN9.out)
    have HT11 := As.mk ho
    have HB11 := As.mk hb
    have HK11 := As.mk (show Kept W w11 (fun k => k = g ∨ okT k) from HK9.out.then_ KA (fun k h => (HTO.out k h.symm).elim (fun h => .inl (.inr h)) (fun h => .inr h.1)))
    clear ho hb hg hat KA
    obtain ⟨A8, c8, e8⟩ := Kd.S_slice HT11.out
    subst e8
    refine hK.out _ _ ⟨(blk_cell HX11.out 0).trans rfl, (blk_cell HX11.out 1).trans rfl, (blk_cell HN11.out 0).trans rfl, (blk_cell HN11.out 1).trans rfl, (blk_cell HN11.out 2).trans rfl, (blk_cell HN11.out 3).trans rfl⟩ (fun hHeld => ?_)
    clear hK K
    refine norm_ (a' := ?_) ?_ ?_
    rotate_left
    ·
     show Act.put _ (some 113) _ = _
     simp only [pk, i64_w, i32_w]
     rfl
    refine pure_ (i := 8) (N := some 114) (v := ?_) (a' := ?_) #[I,I,I,I,I,I,I,I,I,O,O] rfl rfl (by kernel_rfl) (fun _ _ _ h => h) (Or.inl ⟨by rfl, ?_⟩) ?_ ?_
    rotate_left; · intro w'; go_simp; with_reducible rfl
    rotate_left; · simp only [pk, i64_w, i32_w]; rfl
    refine pure_ (i := 9) (N := some 115) (v := ?_) (a' := ?_) #[I,I,I,I,I,I,I,I,I,I,O] rfl rfl (by kernel_rfl) (fun _ _ _ h => h) (Or.inl ⟨by rfl, ?_⟩) ?_ ?_
    rotate_left; · intro w'; go_simp; with_reducible rfl
    rotate_left; · simp only [pk, i64_w, i32_w]; rfl
    refine last_ (i := 10) (N := none) #[I,I,I,I,I,I,I,I,I,I,I] rfl rfl (by kernel_rfl) (by decide) (fun K hK => ?_)
    obtain ⟨hc0, hc1, hc2, hf0, hf1, hf2⟩ := cl3x HX11.out
    refine skip_ (w1 := ?_) (by rfl) rfl ?_ ?_
    rotate_left; · go_simp; rfl
    refine hK.out _ _ ?_
    clear hK K
    refine done_ (by kernel_rfl) ?_
    have hlen : (tc ++ [(⟨(rd_T64 ns a).f0, (rd_T64 ns a).f1, (rd_T64 ns a).f2, out⟩ : S64)]).length = tc.length + 1 := by rw [List.length_append, List.length_singleton]
    have HX12 := As.mk (show (w11.setCell ⟨g, 1, none⟩ (.slice A8 (tc.length + 1) c8)).heap[g]? = some (.cells #[.slice (some ad) ns.length c, .slice A8 (tc.length + 1) c8, .bool b] 41 (0, 0)) from blk_put (cs := #[.slice (some ad) ns.length c, .slice Ar tc.length cr, .bool b]) HX11.out 1 _ rfl)
    have hT12 := HT11.out
    rw [hlen] at hT12
    have HT12 := As.mk hT12
    clear hT12 hlen HT11
    go_wp2_with (fail)
    go_ret
    have hres := HRES.out
    rw [HE2.out] at hres
    dsimp only at hres
    subst hres
    refine ⟨_, ?_, HX12.out, Kd.S_far HT12.out (fun k h e => by
     have e' : k = g := e
     subst e'
     exact h.elim HNT.out (fun h => by have := HGW.out; omega)) _, below_set HB11.out HG.out, HK11.out.setCell (.inl (.inl rfl)) _⟩
    exact congrArg (fun z => Ending.returned (.int .i64 z)) (show wrap64 (tc.length : Int) = (tc.length : Int) by have := HTC.out; unfold wrap64; omega)
  ·
   have hb : b = false := by cases b with | false => rfl | true => exact absurd (.inl rfl) hstop
   have hj : x < ((rd_T64 ns a).f3.length : Int) := Classical.byContradiction fun h => hstop (.inr h)
   clear hstop
   subst hb
   have c2b0 : decide (x < ((rd_T64 ns a).f3.length : Int)) = true := decide_eq_true hj
   have p1 : 0 ≤ x := by have := HXJ.out; omega
   obtain ⟨ad1, e1, hk1⟩ := Kd.at_int (Kd.C_below HI.out HBr.out) x p1 hj
   subst e1
   have p1b : (0 ≤ x) = True := eq_true p1
   have q1b : (x < ((rd_T64 ns a).f3.length : Int)) = True := eq_true hj
   have hd1 : wrap64 (11 - ((K : Int) + 1) + 1) = 11 - (K : Int) := by unfold wrap64; omega
   have HJX := As.mk (show j < (rd_T64 ns a).f3.length by have := HXJ.out; omega)
   clear hj p1
   obtain ⟨hc0, hc1, hc2, hf0, hf1, hf2⟩ := cl3x HXr.out
   go_wp2_with (fail)
   rw [show (11 - ((K : Int) + 1) + 1) = 11 - (K : Int) by omega]
   have hng : ¬ (okT g ∨ (W.heap.size ≤ g ∧ g ≠ nb ∧ some g ≠ (.slice Ao out.length co : Value).ownBlock)) := fun h => h.elim HNT.out (fun h => by have := HGW.out; omega)
   refine (IH (fun k => okT k ∨ (W.heap.size ≤ k ∧ k ≠ nb ∧ some k ≠ (.slice Ao out.length co : Value).ownBlock)) g (.slice Ar tc.length cr) (some ad) c ns tc false (rd (rd_T64 ns a).f3 x) w0 wr (by omega) HBr.out HG.out HR.out HXr.out HTr.out hng).mono ?_
   generalize hr3 : pkS_put ns K (rd (rd_T64 ns a).f3 x) tc false = r3
   have HKA := As.mk (pkS_kids_at (pkS_put ns K) _ x j HXJ.out HJX.out tc out r3 hr3)
   have HGD := As.mk (pkS_len ns K (rd (rd_T64 ns a).f3 x) tc false)
   rw [hr3] at HGD
   clear hr3
   obtain ⟨p3, t3, b3⟩ := r3
   rintro e w3 ⟨tv3, rfl, hx3', hT3, hB3, hK3⟩
   dsimp only at hx3' hT3 HKA HGD
   have HX3 := As.mk hx3'
   have HT3 := As.mk hT3
   have HB3 := As.mk hB3
   have HK3 := As.mk hK3
   clear hc0 hc1 hc2 hf0 hf1 hf2 hx3' hT3 hB3 hK3
   obtain ⟨Ar3, cr3, er3⟩ := Kd.S_slice HT3.out
   subst er3
   have HOWN := As.mk (fun k (hk : (.slice Ao out.length co : Value).ownBlock = some k) => (Kd.R_bound HRr.out).1 k hk)
   have HR3 := As.mk (show Kd.R (Kd.int .i64) 3 w3 w0.heap.size (fun k => W.heap.size ≤ k ∧ k ≠ nb) (.slice Ao out.length co : Value) out from Kd.R_mono (Kd.R_kept (Kd.R_tight rfl HRr.out) HK3.out (fun k hk hS => by
    have h1 := HOWN.out k hk.symm
    have h2 := HGW.out
    rcases hS with hS | hS | hS
    · have := h1.1.1; omega
    · have := HOW.out k hS; have := h1.1.1; omega
    · exact hS.2.2 hk)) (fun k hk => (HOWN.out k hk.symm).1))
   have HNL := As.mk (blk_lt HNr.out)
   have HN3 := As.mk ((HK3.out.2 nb HNL.out (fun hS => by
    have h1 := HN0.out
    have h2 := HGW.out
    rcases hS with hS | hS | hS
    · omega
    · have := HOW.out nb hS; omega
    · exact hS.2.1 rfl)).trans HNr.out)
   have HSZ := As.mk HK3.out.1
   have HSW := As.mk HKr.out.1
   have LM := As.mk (show out.length < 17592186044416 by have := HTL.out; rw [if_neg (by decide)] at this; omega)
   obtain ⟨n0, n1, n2, n3, m0, m1, m2, m3⟩ := cl4x HN3.out
   go_wp2_with (first | ((with_reducible refine gate_builtin (b := .append) (xs := #[.tmp 101, .tmp 103]) rfl ?_); (try (refine gate_guard (by rfl) ?_; dsimp only)); at_builtin; refine Kd.R_append (Kd.int .i64) (w0 := w0) w0.heap.size rfl (.tmp 101) (.tmp 103) 56 3 (.int .i64 0) 8 rfl Try.underlying56 info3 rfl (by decide) (by omega) (.slice Ao out.length co : Value) out p3 [.int .i64 p3] (fun k => W.heap.size ≤ k ∧ k ≠ nb) (fun _ => False) rfl rfl ?aP (fun _ hk => hk.elim) ?aF ?aO ?aB ?aS ?aL ?_; (case aP => exact rfl); (case aB => exact HB3.out); (case aF => exact (fun k hk => by have := HSZ.out; have := HSW.out; have := HNL.out; exact ⟨by omega, by omega⟩)); (case aO => exact HR3.out); (case aS => exact (below_size HB3.out)); (case aL => have := LM.out; omega); intro v163 w37 ho hb hg hat; clear n0 n1 n2 n3 m0 m1 m2 m3; obtain ⟨A9, c9, e9⟩ := Kd.R_slice ho; subst e9; have KA := As.mk (show Kept w3 w37 (fun k => some k = (.slice Ao out.length co : Value).ownBlock) from Kept.of_grown hg (Kept.refl _ _) (fun k h => .inl h.symm)); have HX4 := As.mk ((KA.out.2 g (blk_lt HX3.out) (fun h => by have := (HOWN.out g h.symm).1.1; have := HGW.out; omega)).trans HX3.out); have HN4 := As.mk ((KA.out.2 nb (blk_lt HN3.out) (fun h => (HOWN.out nb h.symm).1.2 rfl)).trans HN3.out); have HO9 := As.mk ho; have HB9 := As.mk hb; have HAT := As.mk hat; clear ho hb hg hat; obtain ⟨n0, n1, n2, n3, m0, m1, m2, m3⟩ := cl4x HN4.out))
   have hl9 : (out ++ [p3]).length = out.length + 1 := by rw [List.length_append]; rfl
   have HO9b := HO9.out
   have HATb := HAT.out
   rw [hl9] at HO9b HATb
   replace HO9 := As.mk HO9b
   replace HAT := As.mk HATb
   clear HO9b HATb hl9
   generalize hv9 : (.slice A9 (out.length + 1) c9 : Value) = v9 at HO9 HAT ⊢
   have hX4 : (w37.setCell ⟨nb, 3, none⟩ v9).heap[g]? = some (.cells #[.slice (some ad) ns.length c, .slice Ar3 t3.length cr3, .bool b3] 41 (0, 0)) := blk_far HX4.out HNE.out.symm _
   have hN4 : (w37.setCell ⟨nb, 3, none⟩ v9).heap[nb]? = some (.cells #[.int .i64 (rd_T64 ns a).f0, .int .i64 (rd_T64 ns a).f1, .string (rd_T64 ns a).f2, v9] 64 (0, 0)) := blk_put (cs := #[_, _, _, (.slice Ao out.length co : Value)]) HN4.out 3 _ (by subst hv9; rfl)
   have hT4 : Kd.S k64 64 w37 w0.heap.size (fun k => okT k ∨ (W.heap.size ≤ k ∧ k ≠ nb ∧ some k ≠ v9.ownBlock)) (.slice Ar3 t3.length cr3) t3 := by
    have hne : ∀ k, (okT k ∨ (W.heap.size ≤ k ∧ k ≠ nb ∧ some k ≠ (.slice Ao out.length co : Value).ownBlock)) ∨ wr.heap.size ≤ k → ¬ some k = (.slice Ao out.length co : Value).ownBlock := fun k h e => by
     have h1 := HOWN.out k e.symm
     rcases h with (h | h) | h
     · have := HOW.out k h; have := h1.1.1; omega
     · exact h.2.2 e
     · have := h1.2.2.1; omega
    refine Kd.S_mono (Kd.S_kept (Kd.S_bound HT3.out) KA.out (fun k h => hne k h.1)) (fun k h => ?_)
    have h3 : some k ≠ v9.ownBlock := fun e => by
     rcases HAT.out with hat | ⟨q, hq, hl⟩
     · exact hne k h.1 (e.trans hat)
     · rw [hq] at e; cases e; have := h.2.2.1; omega
    have h4 := HNL.out
    have h5 := HSW.out
    rcases h.1 with (h1 | h1) | h1
    · exact .inl h1
    · exact .inr ⟨h1.1, h1.2.1, h3⟩
    · exact .inr ⟨by omega, by omega, h3⟩
   have hT5 : Kd.S k64 64 (w37.setCell ⟨nb, 3, none⟩ v9) w0.heap.size (fun k => okT k ∨ (W.heap.size ≤ k ∧ k ≠ nb ∧ some k ≠ v9.ownBlock)) (.slice Ar3 t3.length cr3) t3 := Kd.S_far hT4 (fun k h e => by
    have e' : k = nb := e
    have h1 := HN0.out
    rcases h with h | h
    · have := HOW.out k h; omega
    · exact h.2.1 e') _
   have hR5 : Kd.R (Kd.int .i64) 3 (w37.setCell ⟨nb, 3, none⟩ v9) w0.heap.size (fun k => W.heap.size ≤ k ∧ k ≠ nb) v9 (out ++ [p3]) := Kd.R_far HO9.out (fun k h => h.2) _
   have hb : Below w0.heap.size w0 (w37.setCell ⟨nb, 3, none⟩ v9) := below_set HB9.out (Nat.le_of_lt (Nat.lt_of_le_of_lt HG.out (Nat.lt_of_lt_of_le HGW.out HN0.out)))
   have hK4 : Kept W (w37.setCell ⟨nb, 3, none⟩ v9) (fun k => k = g ∨ okT k) := ((HKr.out.then_ HK3.out (fun k h => h.elim (fun h => .inl (.inl h)) (fun h => h.elim (fun h => .inl (.inr h)) (fun h => .inr h.1)))).then_ KA.out (fun k h => .inr (HOWN.out k h.symm).1.1)).setCell (.inr HN0.out) _
   have hq9 : (out ++ [p3]).length ≤ t3.length + (if b3 = true then 1 else 0) ∧ t3.length ≤ 301 + K := by
    have h1 := HGD.out
    have h2 := HTL.out
    rw [if_neg (by decide)] at h2
    rw [List.length_append, List.length_singleton]
    refine ⟨?_, by omega⟩
    rcases h1.2.2 with h3 | h3
    · rw [if_pos h3]; omega
    · omega
   go_roundg (gk - 1)
   case measure => have := HJ.out; have := HJX.out; omega
   case rel => exact ⟨_, j + 1, out ++ [p3], t3, _, _, b3, rfl, ⟨by have := HXJ.out; have := HJX.out; have := HLm.out; first | omega | (unfold wrap64; omega)⟩, ⟨by have := HJ.out; have := HJX.out; omega⟩, ⟨by rw [List.length_append, HOL.out]; rfl⟩, ⟨hq9⟩, ⟨by rw [← HE.out, HKA.out]⟩, ⟨hX4⟩, ⟨hN4⟩, ⟨hT5⟩, ⟨hR5⟩, ⟨hb⟩, ⟨hK4⟩⟩

end Go.Proofs.Ytnepkmbknoanjaa.PFnExactPacked
