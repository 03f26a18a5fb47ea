/- Written by a program of this session (a turned copy of the kit's print): a contract for each Go function. No condition beside those in each statement. -/
import Derived.Test.YtnepkmbknoanjaaPFnExactPackedx0
import Derived.Test.YtnepkmbknoanjaaPFnExactPackedx1
import Derived.Test.YtnepkmbknoanjaaPFnExactPackedx2
import Derived.Test.YtnepkmbknoanjaaPFnExactPackedx3
import Derived.Test.YtnepkmbknoanjaaPFnExactPackedx4
import Derived.Test.YtnepkmbknoanjaaPFnExactPackedx5
import Derived.Test.YtnepkmbknoanjaaPFnExactPackedx6
import Derived.Test.YtnepkmbknoanjaaPFnExactPackedx7
namespace Go.Proofs.Ytnepkmbknoanjaa.PFnExactPacked
open Go.RowKit Go.Proofs.YtnepkmbknoanjaaW.PrintWords Go.Proofs.YtnepkmbknoanjaaW.PrintLast Go.Proofs.YtnepkmbknoanjaaW.PrintMore
attribute [local go_sem] max2_int min2_int max_two min_two max_three min_three max_four min_four   -- for this text's walks alone
set_option linter.unusedVariables false
set_option linter.unusedSimpArgs false

/-! ### by hand: the state of Packed's loop -/
theorem pkI_put.one (okT : Nat → Prop) (g : Nat) (tv : Value) (A : Option Addr) (c : Nat) (ns t : List S64) (b : Bool) (a : Int) (w0 W : World) (hB : Below w0.heap.size w0 W) (hg : w0.heap.size ≤ g) (hr : Kd.C k64 w0 A ns.length ns) (hx : W.heap[g]? = some (.cells #[.slice A ns.length c, tv, .bool b] 49 (0, 0)))
    (hT : Kd.S k64 64 W w0.heap.size okT tv t) (hgT : ¬ okT g) (p : Int) (tt : List S64) (bb : Bool) (hP : pkI_put ns 10 a t b = (p, tt, bb)) : Calls Try.prog 17 #[.pointer (some ⟨g, 0, none⟩), .int .i64 a, .int .i64 1] W fun e W' => ∃ tv', e = .returned (.int .i64 p) ∧ W'.heap[g]? = some (.cells #[.slice A ns.length c, tv', .bool bb] 49 (0, 0)) ∧ Kd.S k64 64 W' w0.heap.size (fun k => okT k ∨ W.heap.size ≤ k) tv' tt ∧ Below w0.heap.size w0 W' ∧ Kept W W' (fun k => k = g ∨ okT k) := by
  have h := pkI_put.calls 10 okT g tv A c ns t b a w0 W (by decide) hB hg hr hx hT hgT
  rw [hP] at h
  exact h
theorem pkS_put.one (okT : Nat → Prop) (g : Nat) (tv : Value) (A : Option Addr) (c : Nat) (ns t : List S64) (b : Bool) (a : Int) (w0 W : World) (hB : Below w0.heap.size w0 W) (hg : w0.heap.size ≤ g) (hr : Kd.C k64 w0 A ns.length ns) (hx : W.heap[g]? = some (.cells #[.slice A ns.length c, tv, .bool b] 41 (0, 0)))
    (hT : Kd.S k64 64 W w0.heap.size okT tv t) (hgT : ¬ okT g) (p : Int) (tt : List S64) (bb : Bool) (hP : pkS_put ns 10 a t b = (p, tt, bb)) : Calls Try.prog 13 #[.pointer (some ⟨g, 0, none⟩), .int .i64 a, .int .i64 1] W fun e W' => ∃ tv', e = .returned (.int .i64 p) ∧ W'.heap[g]? = some (.cells #[.slice A ns.length c, tv', .bool bb] 41 (0, 0)) ∧ Kd.S k64 64 W' w0.heap.size (fun k => okT k ∨ W.heap.size ≤ k) tv' tt ∧ Below w0.heap.size w0 W' ∧ Kept W W' (fun k => k = g ∨ okT k) := by
  have h := pkS_put.calls 10 okT g tv A c ns t b a w0 W (by decide) hB hg hr hx hT hgT
  rw [hP] at h
  exact h
structure PkSt (w : World) (tg bp : Nat) (pcs : Array Value) (rb g ob : Nat) (fv : Value) (okf oko : Nat → Prop) (tv ov : Value) (tc : List S64) (outs : List S44) (b : Bool) (W : World) : Prop where
  hbp : W.heap[bp]? = some (.cells pcs 30 (0, 0))
  hrb : W.heap[rb]? = some (.cells #[.slice none 0 0, .slice none 0 0] 30 (0, 0))
  hg : W.heap[g]? = some (.cells #[fv, tv, .bool b] tg (0, 0))
  hob : W.heap[ob]? = some (.cells #[.slice none 0 0, ov] 30 (0, 0))
  hT : Kd.S k64 64 W w.heap.size okf tv tc
  hO : Kd.S k44 44 W w.heap.size oko ov outs
  hB : Below w.heap.size w W
section
variable {w W W' : World} {tg bp rb g ob fb : Nat} {pcs : Array Value} {fv tv ov : Value} {okf oko : Nat → Prop} {tc : List S64} {outs : List S44} {b : Bool}
theorem pkt_ne {k k2 t t2 : Nat} {c c2 : Array Value} (h : W.heap[k]? = some (.cells c t (0, 0))) (h2 : W.heap[k2]? = some (.cells c2 t2 (0, 0))) (ht : t ≠ t2) : k ≠ k2 := by
  rintro rfl
  rw [h] at h2
  injection h2 with h2
  injection h2 with _ e _
  exact ht e
theorem PkSt.below (h : PkSt w tg bp pcs rb g ob fv okf oko tv ov tc outs b W) (hb : Below W.heap.size W W') : PkSt w tg bp pcs rb g ob fv okf oko tv ov tc outs b W' :=
  ⟨blk_below h.hbp hb, blk_below h.hrb hb, blk_below h.hg hb, blk_below h.hob hb, Kd.S_below h.hT hb, Kd.S_below h.hO hb, below_step h.hB hb⟩
theorem PkSt.fresh (h : PkSt w tg bp pcs rb g ob fv okf oko tv ov tc outs b W) (hf : fb = W.heap.size) : PkSt w tg bp pcs rb g ob fv (fun k => k ≠ fb) (fun k => k < fb) tv ov tc outs b W :=
  ⟨h.hbp, h.hrb, h.hg, h.hob, Kd.S_mono (Kd.S_elderB h.hT fb (Nat.le_of_eq hf.symm)) (fun k h => h.2), Kd.S_mono (Kd.S_bound h.hO) (fun k h => by rw [hf]; exact h.2.2.1), h.hB⟩
theorem PkSt.far (h : PkSt w tg bp pcs rb g ob fv (fun k => k ≠ fb) (fun k => k < fb) tv ov tc outs b W) (nf : rb ≠ fb ∧ g ≠ fb ∧ ob ≠ fb ∧ bp ≠ fb) (hw : w.heap.size ≤ fb) (j : Nat) (v : Value) : PkSt w tg bp pcs rb g ob fv (fun k => k ≠ fb) (fun k => k < fb) tv ov tc outs b (W.setCell ⟨fb, j, none⟩ v) :=
  ⟨blk_far h.hbp nf.2.2.2 _, blk_far h.hrb nf.1 _, blk_far h.hg nf.2.1 _, blk_far h.hob nf.2.2.1 _, Kd.S_far h.hT (fun k h => h) _, Kd.S_far h.hO (fun k h => Nat.ne_of_lt h) _, below_set h.hB hw⟩
/-- What a call of put leaves of it. -/
theorem PkSt.put {tv' : Value} {tt : List S64} {bb : Bool} {cs : Array Value} (h : PkSt w tg bp pcs rb g ob fv (fun k => k ≠ fb) (fun k => k < fb) tv ov tc outs b W) (hf : W.heap[fb]? = some (.cells cs 44 (0, 0))) (ht : tg ≠ 30 ∧ tg ≠ 44 ∧ ∀ q, q ∈ 44 :: k44.E → q ≠ tg) (ht2 : ∀ q, q ∈ 80 :: k80.E → q ≠ tg)
    (hx : W'.heap[g]? = some (.cells #[fv, tv', .bool bb] tg (0, 0))) (hT : Kd.S k64 64 W' w.heap.size (fun k => ((k ≠ fb) ∧ w.heap.size ≤ k ∧ k < W.heap.size ∧ ∃ q, q ∈ 64 :: k64.E ∧ ∃ cells, W.heap[k]? = some (.cells cells q (0, 0))) ∨ W.heap.size ≤ k) tv' tt) (hB : Below w.heap.size w W')
    (hk : Kept W W' (fun k => k = g ∨ ((k ≠ fb) ∧ w.heap.size ≤ k ∧ k < W.heap.size ∧ ∃ q, q ∈ 64 :: k64.E ∧ ∃ cells, W.heap[k]? = some (.cells cells q (0, 0))))) :
    PkSt w tg bp pcs rb g ob fv (fun k => k ≠ fb) (fun k => k < fb) tv' ov tt outs bb W' ∧ W'.heap[fb]? = some (.cells cs 44 (0, 0)) ∧ ∀ (v : Value) (ps : List S80), Kd.R k80 80 W w.heap.size (fun k => fb < k) v ps → Kd.R k80 80 W' w.heap.size (fun k => fb < k) v ps := by
  have hl := blk_lt hf
  refine ⟨⟨?_, ?_, hx, ?_, Kd.S_mono hT (fun k h => h.elim (fun h => h.1) (fun h e => by omega)), ?_, hB⟩, ?_, fun v ps hv => ?_⟩
  · exact blk_kept h.hbp hk (fun hs => hs.elim (fun e => pkt_ne h.hbp h.hg ht.1.symm e) (fun e => mkk_tyb e h.hbp (by decide)))
  · exact blk_kept h.hrb hk (fun hs => hs.elim (fun e => pkt_ne h.hrb h.hg ht.1.symm e) (fun e => mkk_tyb e h.hrb (by decide)))
  · exact blk_kept h.hob hk (fun hs => hs.elim (fun e => pkt_ne h.hob h.hg ht.1.symm e) (fun e => mkk_tyb e h.hob (by decide)))
  · exact Kd.S_mono (Kd.S_kept (Kd.S_bound h.hO) hk (fun k h1 hs => hs.elim (fun e => by rw [e] at h1; exact mkk_tyb h1 h.hg ht.2.2) (fun e => mkk_tyne e h1 (by decide)))) (fun k h => h.1)
  · exact blk_kept hf hk (fun hs => hs.elim (fun e => pkt_ne hf h.hg ht.2.1.symm e) (fun e => e.1 rfl))
  · exact Kd.R_mono (Kd.R_kept (Kd.R_bound hv) hk (fun k h1 hs => hs.elim (fun e => by rw [e] at h1; exact mkk_tyb h1 h.hg ht2) (fun e => mkk_tyne e h1 (by decide)))) (fun k h => h.1)
/-- What an append to a row of the parameters' own leaves. -/
theorem PkSt.side {v : Value} {ps : List S80} {cs : Array Value} (h : PkSt w tg bp pcs rb g ob fv (fun k => k ≠ fb) (fun k => k < fb) tv ov tc outs b W) (hf : W.heap[fb]? = some (.cells cs 44 (0, 0))) (ht : tg ≠ 80) (hv : Kd.R k80 80 W w.heap.size (fun k => fb < k) v ps) (hgr : W.grownBy W' v.ownBlock) (hb : Below w.heap.size w W') :
    PkSt w tg bp pcs rb g ob fv (fun k => k ≠ fb) (fun k => k < fb) tv ov tc outs b W' ∧ W'.heap[fb]? = some (.cells cs 44 (0, 0)) := by
  have KA : Kept W W' (fun k => some k = v.ownBlock) := Kept.of_grown hgr (Kept.refl _ _) (fun k h => .inl h.symm)
  have hne : ∀ {k t : Nat} {cs : Array Value}, W.heap[k]? = some (.cells cs t (0, 0)) → t ≠ 80 → ¬ some k = v.ownBlock := fun h1 h2 e => by
    obtain ⟨c2, h3⟩ := Kd.R_typed hv _ e.symm
    exact pkt_ne h1 h3 h2 rfl
  exact ⟨⟨blk_kept h.hbp KA (hne h.hbp (by decide)), blk_kept h.hrb KA (hne h.hrb (by decide)), blk_kept h.hg KA (hne h.hg ht), blk_kept h.hob KA (hne h.hob (by decide)), Kd.S_mono (Kd.S_kept (Kd.S_bound h.hT) KA (fun k h5 e => mkk_tyr h5 (Kd.R_typed hv k e.symm) (by decide))) (fun k h => h.1), Kd.S_kept h.hO KA (fun k h5 e => Nat.lt_asymm h5 (hv.1 k e.symm)), hb⟩, blk_kept hf KA (hne hf (by decide))⟩
/-- What an append to the functions that are put out, and its store, leave. -/
theorem PkSt.push {A' : Option Addr} {n' c' : Nat} {outs' : List S44} (h : PkSt w tg bp pcs rb g ob fv okf oko tv ov tc outs b W) (ht : tg ≠ 44 ∧ tg ≠ 30) (hgr : W.grownBy W' ov.ownBlock) (ho : Kd.S k44 44 W' w.heap.size (fun _ => True) (.slice A' n' c') outs') (hb : Below w.heap.size w W') (hor : rb ≠ ob) (hbo : bp ≠ ob) (hwo : w.heap.size ≤ ob) (hsl : ∃ A n c, ov = .slice A n c) :
    W'.heap[ob]? = some (.cells #[.slice none 0 0, ov] 30 (0, 0)) ∧ PkSt w tg bp pcs rb g ob fv (fun _ => True) (fun _ => True) tv (.slice A' n' c') tc outs' b (W'.setCell ⟨ob, 1, none⟩ (.slice A' n' c')) := by
  have KA : Kept W W' (fun k => some k = ov.ownBlock) := Kept.of_grown hgr (Kept.refl _ _) (fun k h => .inl h.symm)
  have hne : ∀ {k t : Nat} {cs : Array Value}, W.heap[k]? = some (.cells cs t (0, 0)) → t ≠ 44 → ¬ some k = ov.ownBlock := fun h1 h2 e => by
    obtain ⟨c2, h3⟩ := Kd.S_typed h.hO _ e.symm
    exact pkt_ne h1 h3 h2 rfl
  have h0 := blk_kept h.hbp KA (hne h.hbp (by decide))
  have h1 := blk_kept h.hrb KA (hne h.hrb (by decide))
  have h2 := blk_kept h.hg KA (hne h.hg ht.1)
  have h3 := blk_kept h.hob KA (hne h.hob (by decide))
  have h4 := Kd.S_kept (Kd.S_bound h.hT) KA (fun k h5 e => mkk_tyr h5 (Kd.S_typed h.hO k e.symm) (by decide))
  obtain ⟨A, n, c, rfl⟩ := hsl
  refine ⟨h3, blk_far h0 hbo _, blk_far h1 hor _, blk_far h2 (pkt_ne h2 h3 ht.2) _, blk_put (cs := #[.slice none 0 0, .slice A n c]) h3 1 _ rfl, Kd.S_mono (Kd.S_far (Kd.S_bound h4) (fun k h5 e => ?_) _) (fun k h => trivial), Kd.S_mono (Kd.S_far (Kd.S_bound ho) (fun k h5 e => ?_) _) (fun k h => trivial), below_set hb hwo⟩
  · have e' : k = ob := e
    rw [e'] at h5
    exact mkk_tyb h5 h3 (by decide)
  · have e' : k = ob := e
    rw [e'] at h5
    exact mkk_tyb h5 h3 (by decide)
end
theorem pkI_put.st {w W : World} {bp rb g ob fb : Nat} {pcs : Array Value} {tv ov : Value} {tc : List S64} {outs : List S44} {b : Bool} {A : Option Addr} {c : Nat} {ns : List S64} {cs : Array Value} (h : PkSt w 49 bp pcs rb g ob (.slice A ns.length c) (fun k => k ≠ fb) (fun k => k < fb) tv ov tc outs b W) (hf : W.heap[fb]? = some (.cells cs 44 (0, 0))) (hgw : w.heap.size ≤ g) (hr : Kd.C k64 w A ns.length ns) (a p : Int) (tt : List S64) (bb : Bool) (hP : pkI_put ns 10 a tc b = (p, tt, bb)) :
    Calls Try.prog 17 #[.pointer (some ⟨g, 0, none⟩), .int .i64 a, .int .i64 1] W fun e W' => ∃ tv', e = .returned (.int .i64 p) ∧ PkSt w 49 bp pcs rb g ob (.slice A ns.length c) (fun k => k ≠ fb) (fun k => k < fb) tv' ov tt outs bb W' ∧ W'.heap[fb]? = some (.cells cs 44 (0, 0)) ∧ ∀ (v : Value) (ps : List S80), Kd.R k80 80 W w.heap.size (fun k => fb < k) v ps → Kd.R k80 80 W' w.heap.size (fun k => fb < k) v ps := by
  refine (pkI_put.one _ g tv A c ns tc b a w W h.hB hgw hr h.hg (Kd.S_bound h.hT) (fun e => mkk_tyb e h.hg (by decide)) p tt bb hP).mono ?_
  rintro e W' ⟨tv', rfl, hx, hT, hB, hk⟩
  exact ⟨tv', rfl, h.put hf ⟨by decide, by decide, by decide⟩ (by decide) hx hT hB hk⟩
theorem pkS_put.st {w W : World} {bp rb g ob fb : Nat} {pcs : Array Value} {tv ov : Value} {tc : List S64} {outs : List S44} {b : Bool} {A : Option Addr} {c : Nat} {ns : List S64} {cs : Array Value} (h : PkSt w 41 bp pcs rb g ob (.slice A ns.length c) (fun k => k ≠ fb) (fun k => k < fb) tv ov tc outs b W) (hf : W.heap[fb]? = some (.cells cs 44 (0, 0))) (hgw : w.heap.size ≤ g) (hr : Kd.C k64 w A ns.length ns) (a p : Int) (tt : List S64) (bb : Bool) (hP : pkS_put ns 10 a tc b = (p, tt, bb)) :
    Calls Try.prog 13 #[.pointer (some ⟨g, 0, none⟩), .int .i64 a, .int .i64 1] W fun e W' => ∃ tv', e = .returned (.int .i64 p) ∧ PkSt w 41 bp pcs rb g ob (.slice A ns.length c) (fun k => k ≠ fb) (fun k => k < fb) tv' ov tt outs bb W' ∧ W'.heap[fb]? = some (.cells cs 44 (0, 0)) ∧ ∀ (v : Value) (ps : List S80), Kd.R k80 80 W w.heap.size (fun k => fb < k) v ps → Kd.R k80 80 W' w.heap.size (fun k => fb < k) v ps := by
  refine (pkS_put.one _ g tv A c ns tc b a w W h.hB hgw hr h.hg (Kd.S_bound h.hT) (fun e => mkk_tyb e h.hg (by decide)) p tt bb hP).mono ?_
  rintro e W' ⟨tv', rfl, hx, hT, hB, hk⟩
  exact ⟨tv', rfl, h.put hf ⟨by decide, by decide, by decide⟩ (by decide) hx hT hB hk⟩
/-- What Packed makes of the functions: put is told by what it answers. -/
def pk_fns (put : Int → List S64 → Bool → Int × List S64 × Bool) : List S44 → List S64 → Bool → List S44 → List S64 × Bool × List S44
  | [], t, b, out => (t, b, out)
  | f :: r, t, b, out => if 0 ≤ f.f4 then pk_fns put r (put f.f4 (put f.f3 t b).2.1 (put f.f3 t b).2.2).2.1 (put f.f4 (put f.f3 t b).2.1 (put f.f3 t b).2.2).2.2 (out ++ [⟨f.f0, f.f1, f.f2, (put f.f3 t b).1, (put f.f4 (put f.f3 t b).2.1 (put f.f3 t b).2.2).1⟩])
    else pk_fns put r (put f.f3 t b).2.1 (put f.f3 t b).2.2 (out ++ [⟨f.f0, f.f1, f.f2, (put f.f3 t b).1, f.f4⟩])
theorem pkf_rd (xs : List S44) (x : Int) (j : Nat) (hx : x = (j : Int)) (h : j < xs.length) : rd_T44 xs x = xs[j] := by
  subst hx
  unfold rd_T44
  rw [Int.toNat_natCast, List.getD_eq_getElem?_getD, List.getElem?_eq_getElem h]
  rfl
theorem pk_fns_yes (put : Int → List S64 → Bool → Int × List S64 × Bool) (fs : List S44) (x : Int) (j : Nat) (hx : x = (j : Int)) (hj : j < fs.length) (t t1 t2 : List S64) (b b1 b2 : Bool) (p1 p2 : Int) (out : List S44) (h1 : put (rd_T44 fs x).f3 t b = (p1, t1, b1)) (h2 : put (rd_T44 fs x).f4 t1 b1 = (p2, t2, b2)) (h0 : 0 ≤ (rd_T44 fs x).f4) :
    pk_fns put (fs.drop j) t b out = pk_fns put (fs.drop (j + 1)) t2 b2 (out ++ [⟨(rd_T44 fs x).f0, (rd_T44 fs x).f1, (rd_T44 fs x).f2, p1, p2⟩]) := by
  rw [pkf_rd fs x j hx hj] at h1 h2 h0 ⊢
  rw [List.drop_eq_getElem_cons hj, pk_fns, if_pos h0, h1, h2]
theorem pk_fns_no (put : Int → List S64 → Bool → Int × List S64 × Bool) (fs : List S44) (x : Int) (j : Nat) (hx : x = (j : Int)) (hj : j < fs.length) (t t1 : List S64) (b b1 : Bool) (p1 : Int) (out : List S44) (h1 : put (rd_T44 fs x).f3 t b = (p1, t1, b1)) (h0 : ¬ 0 ≤ (rd_T44 fs x).f4) :
    pk_fns put (fs.drop j) t b out = pk_fns put (fs.drop (j + 1)) t1 b1 (out ++ [⟨(rd_T44 fs x).f0, (rd_T44 fs x).f1, (rd_T44 fs x).f2, p1, (rd_T44 fs x).f4⟩]) := by
  rw [pkf_rd fs x j hx hj] at h1 h0 ⊢
  rw [List.drop_eq_getElem_cons hj, pk_fns, if_neg h0, h1]

/-! ### by hand: impl_Packed -/
def impl_Packed.f (ns : List S64) (fs : List S44) : Option (List S64 × List S44 × Bool) := if fs.length < 1000000000000 ∧ ∀ x ∈ fs, x.f1.length < 1000000000000 then (if (pk_fns (pkI_put ns 10) fs [] false []).2.1 = true then some ([], [], false) else some ((pk_fns (pkI_put ns 10) fs [] false []).1, (pk_fns (pkI_put ns 10) fs [] false []).2.2, true)) else none
set_option maxHeartbeats 8000000 in
set_option maxRecDepth 100000 in
theorem impl_Packed.calls (A0_0 : Option Addr) (c0_0 : Nat) (l0_0 : List (S64)) (A0_1 : Option Addr) (c0_1 : Nat) (l0_1 : List (S44)) (r1 : List (S64)) (r2 : List (S44)) (r3 : Bool) (w : World) (hr0_0 : Kd.C k64 w A0_0 l0_0.length l0_0) (hc0_0 : l0_0.length ≤ c0_0) (hr0_1 : Kd.C k44 w A0_1 l0_1.length l0_1) (hc0_1 : l0_1.length ≤ c0_1) (h : impl_Packed.f l0_0 l0_1 = some (r1, r2, r3)) :
  Calls Try.prog 7 #[.agg #[.slice A0_0 l0_0.length c0_0, .slice A0_1 l0_1.length c0_1]] w fun e w' => ∃ v0_ v1_ : Value, e = .returned (.tuple #[.agg #[v0_, v1_], .bool r3]) ∧ Kd.S k64 64 w' w.heap.size (fun _ => True) v0_ r1 ∧ Kd.S k44 44 w' w.heap.size (fun _ => True) v1_ r2 ∧ Below w.heap.size w w' := by
 have HR0_0 := As.mk hr0_0
 have HR0_1 := As.mk hr0_1
 have HLM := As.mk (show l0_1.length ≤ 9223372036854775807 from hr0_1.2.1)
 clear hr0_0 hc0_0 hr0_1 hc0_1
 have HB := As.mk (Below.refl w.heap.size w)
 unfold impl_Packed.f at h
 by_cases c1 : l0_1.length < 1000000000000 ∧ ∀ x ∈ l0_1, x.f1.length < 1000000000000
 rotate_left
 · rw [if_neg c1] at h; cases h
 rw [if_pos c1] at h
 obtain ⟨R, hR⟩ : ∃ R, pk_fns (pkI_put l0_0 10) l0_1 [] false [] = R := ⟨_, rfl⟩
 rw [hR] at h
 have HR := As.mk hR
 have HRES := As.mk h
 have HLL := As.mk c1.1
 have HPL := As.mk c1.2
 clear h hR c1
 go_enter Try.func7, Try.ntmps7
 go_upto_region 2 with (first | ((with_reducible refine gate_dst (N := 1) rfl ?_); refine box_event ?hg (N := 1) ?hd (cs := #[.slice A0_0 l0_0.length c0_0, .slice A0_1 l0_1.length c0_1]) (t := 30) ?hr ?_; (case hd => rfl); (case hg => rfl); (case hr => first | (go_simp; done) | (go_simp; rfl)); intro bp hg w1 hbox hb; have BP := As.mk hbox; have GP := As.mk (gs w hg); replace HB := As.mk (below_step (be w) hb); clear hb hbox hg) | ((with_reducible refine gate_dst (N := 2) rfl ?_); refine box_event ?hg (N := 2) ?hd (cs := #[.slice none 0 0, .slice none 0 0]) (t := 30) ?hr ?_; (case hd => rfl); (case hg => rfl); (case hr => first | (go_simp; done) | (go_simp; rfl)); intro rb hg w2 hbox hb; have RB := As.mk hbox; have NRB := As.mk (show rb ≠ bp by rw [hg]; exact Nat.ne_of_gt (blk_lt (bx BP.out))); replace BP := As.mk (blk_below (bx BP.out) hb); have GR := As.mk (gs w hg); replace HB := As.mk (below_step (be w) hb); clear hb hbox hg; obtain ⟨hb0, hb1, gb0, gb1⟩ := cl2 BP.out) | ((with_reducible refine gate_dst (N := 4) rfl ?_); refine box_event ?hg (N := 4) ?hd (cs := #[.slice none 0 0, .slice none 0 0, .bool false]) (t := 49) ?hr ?_; (case hd => rfl); (case hg => rfl); (case hr => first | (go_simp; done) | (go_simp; rfl)); intro g hg w3 hbox hb; have HX := As.mk hbox; have NGB := As.mk (show g ≠ bp by rw [hg]; exact Nat.ne_of_gt (blk_lt (bx BP.out))); have NGR := As.mk (show g ≠ rb by rw [hg]; exact Nat.ne_of_gt (blk_lt (bx RB.out))); replace BP := As.mk (blk_below (bx BP.out) hb); replace RB := As.mk (blk_below (bx RB.out) hb); have HG := As.mk (gs w hg); replace HB := As.mk (below_step (be w) hb); clear hb hbox hg hb0 hb1 gb0 gb1; obtain ⟨hc0, hc1, hc2, hf0, hf1, hf2⟩ := cl3 HX.out))
 generalize hw : (((w3.setCell ⟨g, 0, none⟩ (.slice A0_0 l0_0.length c0_0)).setCell ⟨g, 1, none⟩ (.slice none 0 0)).setCell ⟨g, 2, none⟩ (.bool false)) = w4
 have HX4 := As.mk (show w4.heap[g]? = some (.cells #[.slice A0_0 l0_0.length c0_0, .slice none 0 0, .bool false] 49 (0, 0)) by
  rw [← hw]
  exact blk_put (cs := #[.slice A0_0 l0_0.length c0_0, .slice none 0 0, .bool false]) (blk_put (cs := #[.slice A0_0 l0_0.length c0_0, .slice none 0 0, .bool false]) (blk_put (cs := #[.slice none 0 0, .slice none 0 0, .bool false]) HX.out 0 _ rfl) 1 _ rfl) 2 _ rfl)
 have BP4 := As.mk (show w4.heap[bp]? = some (.cells #[.slice A0_0 l0_0.length c0_0, .slice A0_1 l0_1.length c0_1] 30 (0, 0)) by
  rw [← hw]
  exact blk_far (blk_far (blk_far BP.out NGB.out.symm _) NGB.out.symm _) NGB.out.symm _)
 have RB4 := As.mk (show w4.heap[rb]? = some (.cells #[.slice none 0 0, .slice none 0 0] 30 (0, 0)) by
  rw [← hw]
  exact blk_far (blk_far (blk_far RB.out NGR.out.symm _) NGR.out.symm _) NGR.out.symm _)
 have HB4 := As.mk (show Below w.heap.size w w4 by
  rw [← hw]
  exact below_set (below_set (below_set HB.out HG.out) HG.out) HG.out)
 clear hw hc0 hc1 hc2 hf0 hf1 hf2 HX BP RB HB
 go_wp2_with (first | ((with_reducible refine gate_dst (N := 5) rfl ?_); refine box_event ?hg (N := 5) ?hd (cs := #[.slice none 0 0, .slice none 0 0]) (t := 30) ?hr ?_; (case hd => rfl); (case hg => rfl); (case hr => first | (go_simp; done) | (go_simp; rfl)); intro ob hg w5 hbox hb; have OB := As.mk hbox; have NOB := As.mk (show ob ≠ bp by rw [hg]; exact Nat.ne_of_gt (blk_lt BP4.out)); have NOR := As.mk (show ob ≠ rb by rw [hg]; exact Nat.ne_of_gt (blk_lt RB4.out)); have GO := As.mk (Nat.le_trans (below_size HB4.out) (Nat.le_of_eq hg.symm)); have HX5 := As.mk (blk_below HX4.out hb); have RB5 := As.mk (blk_below RB4.out hb); have BP5 := As.mk (blk_below BP4.out hb); have HB5 := As.mk (below_step HB4.out hb); clear hb hbox hg; obtain ⟨hb0, hb1, gb0, gb1⟩ := cl2 BP5.out))
 have ST := As.mk (PkSt.mk (w := w) (tg := 49) (fv := .slice A0_0 l0_0.length c0_0) (okf := fun _ => True) (oko := fun _ => True) BP5.out RB5.out HX5.out OB.out (Kd.S_nil _ _ _ _ _) (Kd.S_nil _ _ _ _ _) HB5.out)
 clear HX4 BP4 RB4 HB4 HX5 RB5 HB5 OB BP5 hb0 hb1 gb0 gb1
 go_loopg [14] l0_1.length (fun kq v14 wr => ∃ (x : Int) (j : Nat) (outs : List S44) (tc : List S64) (tv ov : Value) (b : Bool), v14 = .int .i64 x ∧ As (x = (j : Int)) ∧ As (kq + j = l0_1.length) ∧ As (outs.length = j) ∧ As (pk_fns (pkI_put l0_0 10) (l0_1.drop j) tc b outs = R) ∧ As (PkSt w 49 bp #[.slice A0_0 l0_0.length c0_0, .slice A0_1 l0_1.length c0_1] rb g ob (.slice A0_0 l0_0.length c0_0) (fun _ => True) (fun _ => True) tv ov tc outs b wr))
 case atStart => exact ⟨0, 0, [], [], _, _, false, rfl, ⟨rfl⟩, ⟨by omega⟩, ⟨rfl⟩, ⟨by rw [List.drop_zero]; exact HR.out⟩, ST⟩
 case round =>
  clear ST HR
  obtain ⟨x, j, outs, tc, tv, ov, b, rfl, HXJ, HJ, HOL, HE, ST⟩ := hrel
  by_cases hj : x < (l0_1.length : Int)
  ·
   have c2b0 : decide (x < (l0_1.length : Int)) = true := decide_eq_true hj
   have p1 : 0 ≤ x := by have := HXJ.out; omega
   have HJX := As.mk (show j < l0_1.length by have := HXJ.out; omega)
   obtain ⟨ad, Ap, cp, ead, hx0, hx1, hx2, hx3, hx4, hl1, hi1⟩ := at_T44 HR0_1.out x p1 hj
   cases ead
   replace hx0 := ce ST.out.hB hx0
   replace hx1 := ce ST.out.hB hx1
   replace hx2 := ce ST.out.hB hx2
   replace hx3 := ce ST.out.hB hx3
   replace hx4 := ce ST.out.hB hx4
   have HI := As.mk hi1
   have HL := As.mk hl1
   clear hl1 hi1
   have p1b : (0 ≤ x) = True := eq_true p1
   have q1b : (x < (l0_1.length : Int)) = True := eq_true hj
   clear hj p1
   go_upto_region 6 with (first | ((with_reducible refine gate_dst (N := 7) rfl ?_); refine box_event ?hg (N := 7) ?hd (cs := #[.string (⟨#[]⟩ : ByteArray), .slice none 0 0, .int .i64 0, .int .i64 0, .int .i64 0]) (t := 44) ?hr ?_; (case hd => rfl); (case hg => rfl); (case hr => first | (go_simp; done) | (go_simp; rfl)); intro fb hg w6 hbox hb; have FB := As.mk hbox; have HFW := As.mk (Nat.le_trans (below_size ST.out.hB) (Nat.le_of_eq hg.symm)); have NF := As.mk (show rb ≠ fb ∧ g ≠ fb ∧ ob ≠ fb ∧ bp ≠ fb from ⟨by rw [hg]; exact Nat.ne_of_lt (blk_lt ST.out.hrb), by rw [hg]; exact Nat.ne_of_lt (blk_lt ST.out.hg), by rw [hg]; exact Nat.ne_of_lt (blk_lt ST.out.hob), by rw [hg]; exact Nat.ne_of_lt (blk_lt ST.out.hbp)⟩); have ST6 := As.mk ((ST.out.fresh (fb := fb) hg).below hb); clear hb hbox hg hx0 hx1 hx2 hx3 hx4; obtain ⟨hc0, hc1, hc2, hc3, hc4, hf0, hf1, hf2, hf3, hf4⟩ := cl5 FB.out))
   generalize hw : (((((w6).setCell ⟨fb, 0, none⟩ (.string (rd_T44 l0_1 x).f0)).setCell ⟨fb, 1, none⟩ (.slice Ap (rd_T44 l0_1 x).f1.length cp)).setCell ⟨fb, 2, none⟩ (.int .i64 (rd_T44 l0_1 x).f2)).setCell ⟨fb, 3, none⟩ (.int .i64 (rd_T44 l0_1 x).f3)).setCell ⟨fb, 4, none⟩ (.int .i64 (rd_T44 l0_1 x).f4) = w7
   have FB7 := As.mk (show w7.heap[fb]? = some (.cells #[.string (rd_T44 l0_1 x).f0, .slice Ap (rd_T44 l0_1 x).f1.length cp, .int .i64 (rd_T44 l0_1 x).f2, .int .i64 (rd_T44 l0_1 x).f3, .int .i64 (rd_T44 l0_1 x).f4] 44 (0, 0)) by
    rw [← hw]
    exact blk_put (cs := #[.string (rd_T44 l0_1 x).f0, .slice Ap (rd_T44 l0_1 x).f1.length cp, .int .i64 (rd_T44 l0_1 x).f2, .int .i64 (rd_T44 l0_1 x).f3, .int .i64 0]) (blk_put (cs := #[.string (rd_T44 l0_1 x).f0, .slice Ap (rd_T44 l0_1 x).f1.length cp, .int .i64 (rd_T44 l0_1 x).f2, .int .i64 0, .int .i64 0]) (blk_put (cs := #[.string (rd_T44 l0_1 x).f0, .slice Ap (rd_T44 l0_1 x).f1.length cp, .int .i64 0, .int .i64 0, .int .i64 0]) (blk_put (cs := #[.string (rd_T44 l0_1 x).f0, .slice none 0 0, .int .i64 0, .int .i64 0, .int .i64 0]) (blk_put (cs := #[.string (⟨#[]⟩ : ByteArray), .slice none 0 0, .int .i64 0, .int .i64 0, .int .i64 0]) (FB.out) 0 _ rfl) 1 _ rfl) 2 _ rfl) 3 _ rfl) 4 _ rfl)
   have ST7 := As.mk (show PkSt w 49 bp #[.slice A0_0 l0_0.length c0_0, (.slice (some ad) l0_1.length c0_1)] rb g ob (.slice A0_0 l0_0.length c0_0) (fun k => k ≠ fb) (fun k => k < fb) tv ov tc outs b w7 by
    rw [← hw]
    exact (((((ST6.out).far NF.out HFW.out 0 (.string (rd_T44 l0_1 x).f0)).far NF.out HFW.out 1 (.slice Ap (rd_T44 l0_1 x).f1.length cp)).far NF.out HFW.out 2 (.int .i64 (rd_T44 l0_1 x).f2)).far NF.out HFW.out 3 (.int .i64 (rd_T44 l0_1 x).f3)).far NF.out HFW.out 4 (.int .i64 (rd_T44 l0_1 x).f4))
   clear hw FB ST6 hc0 hc1 hc2 hc3 hc4 hf0 hf1 hf2 hf3 hf4
   have HCF := As.mk (show impl_copyFn.f (rd_T44 l0_1 x).f0 (rd_T44 l0_1 x).f1 (rd_T44 l0_1 x).f2 (rd_T44 l0_1 x).f3 (rd_T44 l0_1 x).f4 = some ((rd_T44 l0_1 x).f0, (rd_T44 l0_1 x).f1, (rd_T44 l0_1 x).f2, (rd_T44 l0_1 x).f3, (rd_T44 l0_1 x).f4) by
    have hpl : (rd_T44 l0_1 x).f1.length < 1000000000000 := by rw [pkf_rd l0_1 x j HXJ.out HJX.out]; exact HPL.out _ (List.getElem_mem _)
    unfold impl_copyFn.f
    rw [if_pos (by rw [List.length_nil]; omega), List.nil_append])
   obtain ⟨⟨pa, ta, ba⟩, hpa⟩ : ∃ z, pkI_put l0_0 10 (rd_T44 l0_1 x).f3 tc b = z := ⟨_, rfl⟩
   have HPA := As.mk hpa
   clear hpa
   obtain ⟨hc0, hc1, hc2, hc3, hc4, hf0, hf1, hf2, hf3, hf4⟩ := cl5 FB7.out
   go_upto_region 7 with (first | ((with_reducible refine gate_callee (f := 16) rfl ?_); refine goesL_ (some 19) rfl rfl Try.func16 (by kernel_rfl) rfl #[.agg #[.string (rd_T44 l0_1 x).f0, .slice Ap (rd_T44 l0_1 x).f1.length cp, .int .i64 (rd_T44 l0_1 x).f2, .int .i64 (rd_T44 l0_1 x).f3, .int .i64 (rd_T44 l0_1 x).f4]] rfl (by (try simp only [lm]); first | done | rfl | (simp only [List.length_drop, List.length_take]; rfl)) ?_; (refine (impl_copyFn.calls (rd_T44 l0_1 x).f0 Ap cp (rd_T44 l0_1 x).f1 (rd_T44 l0_1 x).f2 (rd_T44 l0_1 x).f3 (rd_T44 l0_1 x).f4 _ _ _ _ _ _ (Kd.C_below HI.out ST7.out.hB) HL.out HCF.out).mono ?_); rintro e w8 ⟨v1, rfl, hv, hb⟩; refine ⟨_, rfl, ?_⟩; have ST8 := As.mk (ST7.out.below hb); have FB8 := As.mk (blk_below FB7.out hb); have HV8 := As.mk (Kd.R_lower (Kd.R_mono (ok' := fun k => fb < k) (Kd.R_bound hv) (fun k h => Nat.lt_of_lt_of_le (blk_lt FB7.out) h.2.1)) (below_size ST7.out.hB)); clear hv hb ST7 FB7 hc0 hc1 hc2 hc3 hc4 hf0 hf1 hf2 hf3 hf4; obtain ⟨Aq, cq, eq⟩ := Kd.R_slice HV8.out; subst eq; obtain ⟨hc0, hc1, hc2, hc3, hc4, hf0, hf1, hf2, hf3, hf4⟩ := cl5 FB8.out))
   generalize hw : (((((w8).setCell ⟨fb, 0, none⟩ (.string (rd_T44 l0_1 x).f0)).setCell ⟨fb, 1, none⟩ (.slice Aq (rd_T44 l0_1 x).f1.length cq)).setCell ⟨fb, 2, none⟩ (.int .i64 (rd_T44 l0_1 x).f2)).setCell ⟨fb, 3, none⟩ (.int .i64 (rd_T44 l0_1 x).f3)).setCell ⟨fb, 4, none⟩ (.int .i64 (rd_T44 l0_1 x).f4) = w9
   have FB9 := As.mk (show w9.heap[fb]? = some (.cells #[.string (rd_T44 l0_1 x).f0, .slice Aq (rd_T44 l0_1 x).f1.length cq, .int .i64 (rd_T44 l0_1 x).f2, .int .i64 (rd_T44 l0_1 x).f3, .int .i64 (rd_T44 l0_1 x).f4] 44 (0, 0)) by
    rw [← hw]
    exact blk_put (cs := #[.string (rd_T44 l0_1 x).f0, .slice Aq (rd_T44 l0_1 x).f1.length cq, .int .i64 (rd_T44 l0_1 x).f2, .int .i64 (rd_T44 l0_1 x).f3, .int .i64 (rd_T44 l0_1 x).f4]) (blk_put (cs := #[.string (rd_T44 l0_1 x).f0, .slice Aq (rd_T44 l0_1 x).f1.length cq, .int .i64 (rd_T44 l0_1 x).f2, .int .i64 (rd_T44 l0_1 x).f3, .int .i64 (rd_T44 l0_1 x).f4]) (blk_put (cs := #[.string (rd_T44 l0_1 x).f0, .slice Aq (rd_T44 l0_1 x).f1.length cq, .int .i64 (rd_T44 l0_1 x).f2, .int .i64 (rd_T44 l0_1 x).f3, .int .i64 (rd_T44 l0_1 x).f4]) (blk_put (cs := #[.string (rd_T44 l0_1 x).f0, .slice Ap (rd_T44 l0_1 x).f1.length cp, .int .i64 (rd_T44 l0_1 x).f2, .int .i64 (rd_T44 l0_1 x).f3, .int .i64 (rd_T44 l0_1 x).f4]) (blk_put (cs := #[.string (rd_T44 l0_1 x).f0, .slice Ap (rd_T44 l0_1 x).f1.length cp, .int .i64 (rd_T44 l0_1 x).f2, .int .i64 (rd_T44 l0_1 x).f3, .int .i64 (rd_T44 l0_1 x).f4]) (FB8.out) 0 _ rfl) 1 _ rfl) 2 _ rfl) 3 _ rfl) 4 _ rfl)
   have ST9 := As.mk (show PkSt w 49 bp #[.slice A0_0 l0_0.length c0_0, (.slice (some ad) l0_1.length c0_1)] rb g ob (.slice A0_0 l0_0.length c0_0) (fun k => k ≠ fb) (fun k => k < fb) tv ov tc outs b w9 by
    rw [← hw]
    exact (((((ST8.out).far NF.out HFW.out 0 (.string (rd_T44 l0_1 x).f0)).far NF.out HFW.out 1 (.slice Aq (rd_T44 l0_1 x).f1.length cq)).far NF.out HFW.out 2 (.int .i64 (rd_T44 l0_1 x).f2)).far NF.out HFW.out 3 (.int .i64 (rd_T44 l0_1 x).f3)).far NF.out HFW.out 4 (.int .i64 (rd_T44 l0_1 x).f4))
   have HV9 := As.mk (show Kd.R k80 80 w9 w.heap.size (fun k => fb < k) (.slice Aq (rd_T44 l0_1 x).f1.length cq : Value) (rd_T44 l0_1 x).f1 by
    rw [← hw]
    exact Kd.R_far (Kd.R_far (Kd.R_far (Kd.R_far (Kd.R_far (HV8.out) (fun k h => Nat.ne_of_gt h) (.string (rd_T44 l0_1 x).f0)) (fun k h => Nat.ne_of_gt h) (.slice Aq (rd_T44 l0_1 x).f1.length cq)) (fun k h => Nat.ne_of_gt h) (.int .i64 (rd_T44 l0_1 x).f2)) (fun k h => Nat.ne_of_gt h) (.int .i64 (rd_T44 l0_1 x).f3)) (fun k h => Nat.ne_of_gt h) (.int .i64 (rd_T44 l0_1 x).f4))
   clear hw FB8 ST8 HV8 hc0 hc1 hc2 hc3 hc4 hf0 hf1 hf2 hf3 hf4
   obtain ⟨hc0, hc1, hc2, hc3, hc4, hf0, hf1, hf2, hf3, hf4⟩ := cl5 FB9.out
   go_upto_region 8 with (first | ((with_reducible refine gate_callee (f := 17) rfl ?_); refine goesL_ (some 22) rfl rfl Try.func17 (by kernel_rfl) rfl #[.pointer (some ⟨g, 0, none⟩), .int .i64 (rd_T44 l0_1 x).f3, .int .i64 1] rfl (by (try simp only [lm]); first | done | rfl | (simp only [List.length_drop, List.length_take]; rfl)) ?_; (refine (pkI_put.st ST9.out FB9.out HG.out HR0_0.out (rd_T44 l0_1 x).f3 pa ta ba HPA.out).mono ?_); rintro e w10 ⟨tva, rfl, st_, hf_, hv_⟩; refine ⟨_, rfl, ?_⟩; have ST10 := As.mk st_; have FB10 := As.mk hf_; have HV10 := As.mk (hv_ _ _ HV9.out); clear st_ hf_ hv_ ST9 FB9 HV9 hc0 hc1 hc2 hc3 hc4 hf0 hf1 hf2 hf3 hf4; obtain ⟨hc0, hc1, hc2, hc3, hc4, hf0, hf1, hf2, hf3, hf4⟩ := cl5 FB10.out))
   generalize hw : w10.setCell ⟨fb, 3, none⟩ (.int .i64 pa) = w11
   have FB11 := As.mk (show w11.heap[fb]? = some (.cells #[.string (rd_T44 l0_1 x).f0, .slice Aq (rd_T44 l0_1 x).f1.length cq, .int .i64 (rd_T44 l0_1 x).f2, .int .i64 pa, .int .i64 (rd_T44 l0_1 x).f4] 44 (0, 0)) by
    rw [← hw]
    exact blk_put (cs := #[.string (rd_T44 l0_1 x).f0, .slice Aq (rd_T44 l0_1 x).f1.length cq, .int .i64 (rd_T44 l0_1 x).f2, .int .i64 (rd_T44 l0_1 x).f3, .int .i64 (rd_T44 l0_1 x).f4]) FB10.out 3 _ rfl)
   have ST11 := As.mk (show PkSt w 49 bp #[.slice A0_0 l0_0.length c0_0, (.slice (some ad) l0_1.length c0_1)] rb g ob (.slice A0_0 l0_0.length c0_0) (fun k => k ≠ fb) (fun k => k < fb) tva ov ta outs ba w11 by
    rw [← hw]
    exact ST10.out.far NF.out HFW.out 3 _)
   have HV11 := As.mk (show Kd.R k80 80 w11 w.heap.size (fun k => fb < k) (.slice Aq (rd_T44 l0_1 x).f1.length cq : Value) (rd_T44 l0_1 x).f1 by
    rw [← hw]
    exact Kd.R_far HV10.out (fun k h => Nat.ne_of_gt h) _)
   clear hw FB10 ST10 HV10 hc0 hc1 hc2 hc3 hc4 hf0 hf1 hf2 hf3 hf4
   by_cases h0 : 0 ≤ (rd_T44 l0_1 x).f4
   ·
    have c4b : decide (0 ≤ (rd_T44 l0_1 x).f4) = true := decide_eq_true h0
    have H0 := As.mk h0
    clear h0
    obtain ⟨⟨pb, tb, bb⟩, hpb⟩ : ∃ z, pkI_put l0_0 10 (rd_T44 l0_1 x).f4 ta ba = z := ⟨_, rfl⟩
    have HPB := As.mk hpb
    clear hpb
    obtain ⟨hc0, hc1, hc2, hc3, hc4, hf0, hf1, hf2, hf3, hf4⟩ := cl5 FB11.out
    go_upto_region 10 with (first | ((with_reducible refine gate_callee (f := 17) rfl ?_); refine goesL_ (some 29) rfl rfl Try.func17 (by kernel_rfl) rfl #[.pointer (some ⟨g, 0, none⟩), .int .i64 (rd_T44 l0_1 x).f4, .int .i64 1] rfl (by (try simp only [lm]); first | done | rfl | (simp only [List.length_drop, List.length_take]; rfl)) ?_; (refine (pkI_put.st ST11.out FB11.out HG.out HR0_0.out (rd_T44 l0_1 x).f4 pb tb bb HPB.out).mono ?_); rintro e w12 ⟨tvb, rfl, st_, hf_, hv_⟩; refine ⟨_, rfl, ?_⟩; have ST12 := As.mk st_; have FB12 := As.mk hf_; have HV12 := As.mk (hv_ _ _ HV11.out); clear st_ hf_ hv_ ST11 FB11 HV11 hc0 hc1 hc2 hc3 hc4 hf0 hf1 hf2 hf3 hf4; obtain ⟨hc0, hc1, hc2, hc3, hc4, hf0, hf1, hf2, hf3, hf4⟩ := cl5 FB12.out))
    generalize hw : w12.setCell ⟨fb, 4, none⟩ (.int .i64 pb) = w13
    have FB13 := As.mk (show w13.heap[fb]? = some (.cells #[.string (rd_T44 l0_1 x).f0, .slice Aq (rd_T44 l0_1 x).f1.length cq, .int .i64 (rd_T44 l0_1 x).f2, .int .i64 pa, .int .i64 pb] 44 (0, 0)) by
     rw [← hw]
     exact blk_put (cs := #[.string (rd_T44 l0_1 x).f0, .slice Aq (rd_T44 l0_1 x).f1.length cq, .int .i64 (rd_T44 l0_1 x).f2, .int .i64 pa, .int .i64 (rd_T44 l0_1 x).f4]) FB12.out 4 _ rfl)
    have ST13 := As.mk (show PkSt w 49 bp #[.slice A0_0 l0_0.length c0_0, (.slice (some ad) l0_1.length c0_1)] rb g ob (.slice A0_0 l0_0.length c0_0) (fun k => k ≠ fb) (fun k => k < fb) tvb ov tb outs bb w13 by
     rw [← hw]
     exact ST12.out.far NF.out HFW.out 4 _)
    have HV13 := As.mk (show Kd.R k80 80 w13 w.heap.size (fun k => fb < k) (.slice Aq (rd_T44 l0_1 x).f1.length cq : Value) (rd_T44 l0_1 x).f1 by
     rw [← hw]
     exact Kd.R_far HV12.out (fun k h => Nat.ne_of_gt h) _)
    clear hw FB12 ST12 HV12 hc0 hc1 hc2 hc3 hc4 hf0 hf1 hf2 hf3 hf4
    obtain ⟨Ao, co, eo⟩ := Kd.S_slice ST13.out.hO
    subst eo
    obtain ⟨hc0, hc1, hc2, hc3, hc4, hf0, hf1, hf2, hf3, hf4⟩ := cl5 FB13.out
    obtain ⟨hb0, hb1, gb0, gb1⟩ := cl2 ST13.out.hob
    go_wp2_with (first | ((with_reducible refine gate_builtin (b := .append) (xs := #[.tmp 32, .tmp 34]) rfl ?_); (try (refine gate_guard (by rfl) ?_; dsimp only)); at_builtin; refine Kd.S_append k44 (w0 := w) w.heap.size rfl (.tmp 32) (.tmp 34) 28 44 (.agg #[(.string ⟨#[]⟩), (.slice none 0 0), (.int .i64 0), (.int .i64 0), (.int .i64 0)]) 64 rfl Try.underlying28 info44 rfl (by decide) (by omega) (.slice Ao outs.length co) outs (⟨(rd_T44 l0_1 x).f0, (rd_T44 l0_1 x).f1, (rd_T44 l0_1 x).f2, pa, pb⟩ : S44) [.string (rd_T44 l0_1 x).f0, .slice Aq (rd_T44 l0_1 x).f1.length cq, .int .i64 (rd_T44 l0_1 x).f2, .int .i64 pa, .int .i64 pb] (fun _ => True) (fun k_ => some k_ = (.slice Aq (rd_T44 l0_1 x).f1.length cq : Value).ownBlock) rfl rfl ?aP ?aK ?aF ?aO ?aB ?aS ?aL ?_; (case aP => exact k44_mkM _ _ _ (⟨(rd_T44 l0_1 x).f0, (rd_T44 l0_1 x).f1, (rd_T44 l0_1 x).f2, pa, pb⟩ : S44) (Kd.R_tight rfl HV13.out)); (case aK => exact (fun k hk => ⟨trivial, fun e => by obtain ⟨c1, h1⟩ := Kd.R_typed HV13.out k hk.symm; obtain ⟨c2, h2⟩ := Kd.S_typed ST13.out.hO k e.symm; exact pkt_ne h1 h2 (by decide) rfl⟩)); (case aF => exact (fun _ _ => trivial)); (case aO => exact (Kd.S_mono ST13.out.hO (fun k h => ⟨trivial, fun e => Nat.lt_asymm h (HV13.out.1 k e.symm)⟩))); (case aB => exact ST13.out.hB); (case aS => exact (below_size ST13.out.hB)); (case aL => have := HOL.out; have := HJX.out; have := HLL.out; omega); intro v16 w16 ho hb hg hat; obtain ⟨A16, c16, e16⟩ := Kd.S_slice ho; subst e16; have PU := As.mk (ST13.out.push (A' := A16) (n' := (outs ++ [(⟨(rd_T44 l0_1 x).f0, (rd_T44 l0_1 x).f1, (rd_T44 l0_1 x).f2, pa, pb⟩ : S44)]).length) (c' := c16) ⟨by decide, by decide⟩ hg ho hb NOR.out.symm NOB.out.symm GO.out ⟨_, _, _, rfl⟩); clear ho hb hg hat hb0 hb1 gb0 gb1; obtain ⟨hb0, hb1, gb0, gb1⟩ := cl2 PU.out.1))
    have hlo : (outs ++ [(⟨(rd_T44 l0_1 x).f0, (rd_T44 l0_1 x).f1, (rd_T44 l0_1 x).f2, pa, pb⟩ : S44)]).length = outs.length + 1 := by rw [List.length_append]; rfl
    have PU2 := PU.out.2
    rw [hlo] at PU2
    go_roundg (gk - 1)
    case measure => have := HJ.out; have := HJX.out; omega
    case rel => exact ⟨_, j + 1, outs ++ [(⟨(rd_T44 l0_1 x).f0, (rd_T44 l0_1 x).f1, (rd_T44 l0_1 x).f2, pa, pb⟩ : S44)], tb, _, _, bb, rfl, ⟨by have := HXJ.out; have := HJX.out; have := HLM.out; first | omega | (unfold wrap64; omega)⟩, ⟨by have := HJ.out; have := HJX.out; omega⟩, ⟨by rw [hlo, HOL.out]⟩, ⟨by rw [← HE.out, pk_fns_yes (pkI_put l0_0 10) l0_1 x j HXJ.out HJX.out tc ta tb b ba bb pa pb outs HPA.out HPB.out H0.out]⟩, ⟨PU2⟩⟩
   ·
    have c4b : decide (0 ≤ (rd_T44 l0_1 x).f4) = false := decide_eq_false h0
    have H0 := As.mk h0
    clear h0
    obtain ⟨hc0, hc1, hc2, hc3, hc4, hf0, hf1, hf2, hf3, hf4⟩ := cl5 FB11.out
    go_upto_region 10 with (fail)
    clear hc0 hc1 hc2 hc3 hc4 hf0 hf1 hf2 hf3 hf4
    obtain ⟨Ao, co, eo⟩ := Kd.S_slice ST11.out.hO
    subst eo
    obtain ⟨hc0, hc1, hc2, hc3, hc4, hf0, hf1, hf2, hf3, hf4⟩ := cl5 FB11.out
    obtain ⟨hb0, hb1, gb0, gb1⟩ := cl2 ST11.out.hob
    go_wp2_with (first | ((with_reducible refine gate_builtin (b := .append) (xs := #[.tmp 32, .tmp 34]) rfl ?_); (try (refine gate_guard (by rfl) ?_; dsimp only)); at_builtin; refine Kd.S_append k44 (w0 := w) w.heap.size rfl (.tmp 32) (.tmp 34) 28 44 (.agg #[(.string ⟨#[]⟩), (.slice none 0 0), (.int .i64 0), (.int .i64 0), (.int .i64 0)]) 64 rfl Try.underlying28 info44 rfl (by decide) (by omega) (.slice Ao outs.length co) outs (⟨(rd_T44 l0_1 x).f0, (rd_T44 l0_1 x).f1, (rd_T44 l0_1 x).f2, pa, (rd_T44 l0_1 x).f4⟩ : S44) [.string (rd_T44 l0_1 x).f0, .slice Aq (rd_T44 l0_1 x).f1.length cq, .int .i64 (rd_T44 l0_1 x).f2, .int .i64 pa, .int .i64 (rd_T44 l0_1 x).f4] (fun _ => True) (fun k_ => some k_ = (.slice Aq (rd_T44 l0_1 x).f1.length cq : Value).ownBlock) rfl rfl ?aP ?aK ?aF ?aO ?aB ?aS ?aL ?_; (case aP => exact k44_mkM _ _ _ (⟨(rd_T44 l0_1 x).f0, (rd_T44 l0_1 x).f1, (rd_T44 l0_1 x).f2, pa, (rd_T44 l0_1 x).f4⟩ : S44) (Kd.R_tight rfl HV11.out)); (case aK => exact (fun k hk => ⟨trivial, fun e => by obtain ⟨c1, h1⟩ := Kd.R_typed HV11.out k hk.symm; obtain ⟨c2, h2⟩ := Kd.S_typed ST11.out.hO k e.symm; exact pkt_ne h1 h2 (by decide) rfl⟩)); (case aF => exact (fun _ _ => trivial)); (case aO => exact (Kd.S_mono ST11.out.hO (fun k h => ⟨trivial, fun e => Nat.lt_asymm h (HV11.out.1 k e.symm)⟩))); (case aB => exact ST11.out.hB); (case aS => exact (below_size ST11.out.hB)); (case aL => have := HOL.out; have := HJX.out; have := HLL.out; omega); intro v16 w16 ho hb hg hat; obtain ⟨A16, c16, e16⟩ := Kd.S_slice ho; subst e16; have PU := As.mk (ST11.out.push (A' := A16) (n' := (outs ++ [(⟨(rd_T44 l0_1 x).f0, (rd_T44 l0_1 x).f1, (rd_T44 l0_1 x).f2, pa, (rd_T44 l0_1 x).f4⟩ : S44)]).length) (c' := c16) ⟨by decide, by decide⟩ hg ho hb NOR.out.symm NOB.out.symm GO.out ⟨_, _, _, rfl⟩); clear ho hb hg hat hb0 hb1 gb0 gb1; obtain ⟨hb0, hb1, gb0, gb1⟩ := cl2 PU.out.1))
    have hlo : (outs ++ [(⟨(rd_T44 l0_1 x).f0, (rd_T44 l0_1 x).f1, (rd_T44 l0_1 x).f2, pa, (rd_T44 l0_1 x).f4⟩ : S44)]).length = outs.length + 1 := by rw [List.length_append]; rfl
    have PU2 := PU.out.2
    rw [hlo] at PU2
    go_roundg (gk - 1)
    case measure => have := HJ.out; have := HJX.out; omega
    case rel => exact ⟨_, j + 1, outs ++ [(⟨(rd_T44 l0_1 x).f0, (rd_T44 l0_1 x).f1, (rd_T44 l0_1 x).f2, pa, (rd_T44 l0_1 x).f4⟩ : S44)], ta, _, _, ba, rfl, ⟨by have := HXJ.out; have := HJX.out; have := HLM.out; first | omega | (unfold wrap64; omega)⟩, ⟨by have := HJ.out; have := HJX.out; omega⟩, ⟨by rw [hlo, HOL.out]⟩, ⟨by rw [← HE.out, pk_fns_no (pkI_put l0_0 10) l0_1 x j HXJ.out HJX.out tc ta b ba pa outs HPA.out (by have := H0.out; omega)]⟩, ⟨PU2⟩⟩
  ·
   have c2b0 : decide (x < (l0_1.length : Int)) = false := decide_eq_false hj
   have HE2 := As.mk (show (tc, b, outs) = R by rw [← HE.out, List.drop_eq_nil_of_le (by have := HXJ.out; omega)]; rfl)
   clear hj
   have H := HRES.out
   rw [← HE2.out] at H
   dsimp only at H
   obtain ⟨A5, c5, e5⟩ := Kd.S_slice ST.out.hT
   subst e5
   obtain ⟨A6, c6, e6⟩ := Kd.S_slice ST.out.hO
   subst e6
   obtain ⟨hc0, hc1, hc2, hf0, hf1, hf2⟩ := cl3 ST.out.hg
   obtain ⟨hb0, hb1, gb0, gb1⟩ := cl2 ST.out.hrb
   obtain ⟨hd0, hd1, gd0, gd1⟩ := cl2 ST.out.hob
   cases b with
   | true =>
    rw [if_pos rfl] at H
    simp only [Option.some.injEq, Prod.mk.injEq] at H
    obtain ⟨rfl, rfl, rfl⟩ := H
    go_wp2_with (fail)
    refine bodyPost_ret (results_ct rfl _ _ rb 30 #[.slice none 0 0, .slice none 0 0] (0, 0) _ rfl (blk_put (cs := #[.slice none 0 0, .slice none 0 0]) (blk_put (cs := #[.slice none 0 0, .slice none 0 0]) ST.out.hrb 0 _ rfl) 1 _ rfl) Try.underlying30 rfl (by kernel_rfl)) rfl ?_
    exact ⟨_, _, ez, Kd.S_nil _ _ _ _ _, Kd.S_nil _ _ _ _ _, below_set (below_set ST.out.hB GR.out) GR.out⟩
   | false =>
    rw [if_neg (by decide)] at H
    simp only [Option.some.injEq, Prod.mk.injEq] at H
    obtain ⟨rfl, rfl, rfl⟩ := H
    go_upto_region 15 with (fail)
    generalize hw : wr.setCell ⟨ob, 0, none⟩ (.slice A5 tc.length c5) = wa
    have OBa := As.mk (show wa.heap[ob]? = some (.cells #[.slice A5 tc.length c5, .slice A6 outs.length c6] 30 (0, 0)) by rw [← hw]; exact blk_put (cs := #[.slice none 0 0, .slice A6 outs.length c6]) ST.out.hob 0 _ rfl)
    have RBa := As.mk (show wa.heap[rb]? = some (.cells #[.slice none 0 0, .slice none 0 0] 30 (0, 0)) by rw [← hw]; exact blk_far ST.out.hrb NOR.out.symm _)
    have HTa := As.mk (show Kd.S k64 64 wa w.heap.size (fun _ => True) (.slice A5 tc.length c5) tc by rw [← hw]; exact Kd.S_set ST.out.hT ST.out.hob (by decide) 0 _)
    have HOa := As.mk (show Kd.S k44 44 wa w.heap.size (fun _ => True) (.slice A6 outs.length c6) outs by rw [← hw]; exact Kd.S_set ST.out.hO ST.out.hob (by decide) 0 _)
    have HBa := As.mk (show Below w.heap.size w wa by rw [← hw]; exact below_set ST.out.hB GO.out)
    clear hw hb0 hb1 gb0 gb1 hd0 hd1 gd0 gd1 hc0 hc1 hc2 hf0 hf1 hf2 ST
    obtain ⟨hb0, hb1, gb0, gb1⟩ := cl2 RBa.out
    obtain ⟨hd0, hd1, gd0, gd1⟩ := cl2 OBa.out
    go_wp2_with (fail)
    have RBb := blk_put (cs := #[.slice none 0 0, .slice none 0 0]) RBa.out 0 (.slice A5 tc.length c5) rfl
    refine bodyPost_ret (results_ct rfl _ _ rb 30 #[.slice A5 tc.length c5, .slice A6 outs.length c6] (0, 0) _ rfl (blk_put (cs := #[.slice A5 tc.length c5, .slice none 0 0]) RBb 1 _ rfl) Try.underlying30 rfl (by kernel_rfl)) rfl ?_
    exact ⟨_, _, ez, Kd.S_set (Kd.S_set HTa.out RBa.out (by decide) 0 _) RBb (by decide) 1 _, Kd.S_set (Kd.S_set HOa.out RBa.out (by decide) 0 _) RBb (by decide) 1 _, below_set (below_set HBa.out GR.out) GR.out⟩

/-! ### by hand: spec_Packed -/
def spec_Packed.f (ns : List S64) (fs : List S44) : Option (List S64 × List S44 × Bool) := if fs.length < 1000000000000 ∧ ∀ x ∈ fs, x.f1.length < 1000000000000 then (if (pk_fns (pkS_put ns 10) fs [] false []).2.1 = true ∨ 300 < (pk_fns (pkS_put ns 10) fs [] false []).1.length then some ([], [], false) else some ((pk_fns (pkS_put ns 10) fs [] false []).1, (pk_fns (pkS_put ns 10) fs [] false []).2.2, true)) else none
set_option maxHeartbeats 8000000 in
set_option maxRecDepth 100000 in
theorem spec_Packed.calls (A0_0 : Option Addr) (c0_0 : Nat) (l0_0 : List (S64)) (A0_1 : Option Addr) (c0_1 : Nat) (l0_1 : List (S44)) (r1 : List (S64)) (r2 : List (S44)) (r3 : Bool) (w : World) (hr0_0 : Kd.C k64 w A0_0 l0_0.length l0_0) (hc0_0 : l0_0.length ≤ c0_0) (hr0_1 : Kd.C k44 w A0_1 l0_1.length l0_1) (hc0_1 : l0_1.length ≤ c0_1) (h : spec_Packed.f l0_0 l0_1 = some (r1, r2, r3)) :
  Calls Try.prog 5 #[.agg #[.slice A0_0 l0_0.length c0_0, .slice A0_1 l0_1.length c0_1]] w fun e w' => ∃ v0_ v1_ : Value, e = .returned (.tuple #[.agg #[v0_, v1_], .bool r3]) ∧ Kd.S k64 64 w' w.heap.size (fun _ => True) v0_ r1 ∧ Kd.S k44 44 w' w.heap.size (fun _ => True) v1_ r2 ∧ Below w.heap.size w w' := by
 have HR0_0 := As.mk hr0_0
 have HR0_1 := As.mk hr0_1
 have HLM := As.mk (show l0_1.length ≤ 9223372036854775807 from hr0_1.2.1)
 clear hr0_0 hc0_0 hr0_1 hc0_1
 have HB := As.mk (Below.refl w.heap.size w)
 unfold spec_Packed.f at h
 by_cases c1 : l0_1.length < 1000000000000 ∧ ∀ x ∈ l0_1, x.f1.length < 1000000000000
 rotate_left
 · rw [if_neg c1] at h; cases h
 rw [if_pos c1] at h
 obtain ⟨R, hR⟩ : ∃ R, pk_fns (pkS_put l0_0 10) l0_1 [] false [] = R := ⟨_, rfl⟩
 rw [hR] at h
 have HR := As.mk hR
 have HRES := As.mk h
 have HLL := As.mk c1.1
 have HPL := As.mk c1.2
 clear h hR c1
 go_enter Try.func5, Try.ntmps5
 go_upto_region 2 with (first | ((with_reducible refine gate_dst (N := 1) rfl ?_); refine box_event ?hg (N := 1) ?hd (cs := #[.slice A0_0 l0_0.length c0_0, .slice A0_1 l0_1.length c0_1]) (t := 30) ?hr ?_; (case hd => rfl); (case hg => rfl); (case hr => first | (go_simp; done) | (go_simp; rfl)); intro bp hg w1 hbox hb; have BP := As.mk hbox; have GP := As.mk (gs w hg); replace HB := As.mk (below_step (be w) hb); clear hb hbox hg) | ((with_reducible refine gate_dst (N := 2) rfl ?_); refine box_event ?hg (N := 2) ?hd (cs := #[.slice none 0 0, .slice none 0 0]) (t := 30) ?hr ?_; (case hd => rfl); (case hg => rfl); (case hr => first | (go_simp; done) | (go_simp; rfl)); intro rb hg w2 hbox hb; have RB := As.mk hbox; have NRB := As.mk (show rb ≠ bp by rw [hg]; exact Nat.ne_of_gt (blk_lt (bx BP.out))); replace BP := As.mk (blk_below (bx BP.out) hb); have GR := As.mk (gs w hg); replace HB := As.mk (below_step (be w) hb); clear hb hbox hg; obtain ⟨hb0, hb1, gb0, gb1⟩ := cl2 BP.out) | ((with_reducible refine gate_dst (N := 11) rfl ?_); refine box_event ?hg (N := 11) ?hd (cs := #[.slice A0_0 l0_0.length c0_0, .slice none 0 0, .bool false]) (t := 41) ?hr ?_; (case hd => rfl); (case hg => rfl); (case hr => first | (go_simp; done) | (go_simp; rfl)); intro g hg w3 hbox hb; have HX := As.mk hbox; have HG := As.mk (gs w hg); replace BP := As.mk (blk_below (bx BP.out) hb); replace RB := As.mk (blk_below (bx RB.out) hb); replace HB := As.mk (below_step (be w) hb); clear hb hbox hg hb0 hb1 gb0 gb1))
 go_upto_region 3 with (first | ((with_reducible refine gate_dst (N := 5) rfl ?_); refine box_event ?hg (N := 5) ?hd (cs := #[.slice none 0 0, .slice none 0 0]) (t := 30) ?hr ?_; (case hd => rfl); (case hg => rfl); (case hr => first | (go_simp; done) | (go_simp; rfl)); intro ob hg w5 hbox hb; have OB := As.mk hbox; have NOB := As.mk (show ob ≠ bp by rw [hg]; exact Nat.ne_of_gt (blk_lt BP.out)); have NOR := As.mk (show ob ≠ rb by rw [hg]; exact Nat.ne_of_gt (blk_lt RB.out)); have NOG := As.mk (show ob ≠ g by rw [hg]; exact Nat.ne_of_gt (blk_lt HX.out)); have GO := As.mk (gs w hg); replace HX := As.mk (blk_below HX.out hb); replace RB := As.mk (blk_below RB.out hb); replace BP := As.mk (blk_below BP.out hb); replace HB := As.mk (below_step (be w) hb); clear hb hbox hg; obtain ⟨hb0, hb1, gb0, gb1⟩ := cl2 OB.out))
 generalize hw : ((w5.setCell ⟨ob, 0, none⟩ (.slice none 0 0)).setCell ⟨ob, 1, none⟩ (.slice none 0 0)) = w6
 have ST := As.mk (show PkSt w 41 bp #[.slice A0_0 l0_0.length c0_0, .slice A0_1 l0_1.length c0_1] rb g ob (.slice A0_0 l0_0.length c0_0) (fun _ => True) (fun _ => True) (.slice none 0 0) (.slice none 0 0) [] [] false w6 by
  rw [← hw]
  exact PkSt.mk (blk_far (blk_far BP.out NOB.out.symm _) NOB.out.symm _) (blk_far (blk_far RB.out NOR.out.symm _) NOR.out.symm _) (blk_far (blk_far HX.out NOG.out.symm _) NOG.out.symm _) (blk_put (cs := #[.slice none 0 0, .slice none 0 0]) (blk_put (cs := #[.slice none 0 0, .slice none 0 0]) OB.out 0 _ rfl) 1 _ rfl) (Kd.S_nil _ _ _ _ _) (Kd.S_nil _ _ _ _ _) (below_set (below_set HB.out GO.out) GO.out))
 clear hw HX BP RB HB OB hb0 hb1 gb0 gb1
 go_wp2_with (fail)
 go_loopg [6] l0_1.length (fun kq v6 wr => ∃ (x : Int) (j : Nat) (outs : List S44) (tc : List S64) (tv ov : Value) (b : Bool), v6 = .int .i64 x ∧ As (x = (j : Int)) ∧ As (kq + j = l0_1.length) ∧ As (outs.length = j) ∧ As (pk_fns (pkS_put l0_0 10) (l0_1.drop j) tc b outs = R) ∧ As (PkSt w 41 bp #[.slice A0_0 l0_0.length c0_0, .slice A0_1 l0_1.length c0_1] rb g ob (.slice A0_0 l0_0.length c0_0) (fun _ => True) (fun _ => True) tv ov tc outs b wr))
 case atStart => exact ⟨0, 0, [], [], _, _, false, rfl, ⟨rfl⟩, ⟨by omega⟩, ⟨rfl⟩, ⟨by rw [List.drop_zero]; exact HR.out⟩, ST⟩
 case round =>
  clear ST HR
  obtain ⟨x, j, outs, tc, tv, ov, b, rfl, HXJ, HJ, HOL, HE, ST⟩ := hrel
  by_cases hj : x < (l0_1.length : Int)
  ·
   have c2b0 : decide (x < (l0_1.length : Int)) = true := decide_eq_true hj
   have p1 : 0 ≤ x := by have := HXJ.out; omega
   have HJX := As.mk (show j < l0_1.length by have := HXJ.out; omega)
   obtain ⟨ad, Ap, cp, ead, hx0, hx1, hx2, hx3, hx4, hl1, hi1⟩ := at_T44 HR0_1.out x p1 hj
   cases ead
   replace hx0 := ce ST.out.hB hx0
   replace hx1 := ce ST.out.hB hx1
   replace hx2 := ce ST.out.hB hx2
   replace hx3 := ce ST.out.hB hx3
   replace hx4 := ce ST.out.hB hx4
   have HI := As.mk hi1
   have HL := As.mk hl1
   clear hl1 hi1
   have p1b : (0 ≤ x) = True := eq_true p1
   have q1b : (x < (l0_1.length : Int)) = True := eq_true hj
   obtain ⟨hb0, hb1, gb0, gb1⟩ := cl2 ST.out.hbp
   clear hj p1
   go_upto_region 7 with (first | ((with_reducible refine gate_dst (N := 7) rfl ?_); refine box_event ?hg (N := 7) ?hd (cs := #[.string (⟨#[]⟩ : ByteArray), .slice none 0 0, .int .i64 0, .int .i64 0, .int .i64 0]) (t := 44) ?hr ?_; (case hd => rfl); (case hg => rfl); (case hr => first | (go_simp; done) | (go_simp; rfl)); intro fb hg w6 hbox hb; have FB := As.mk hbox; have HFW := As.mk (Nat.le_trans (below_size ST.out.hB) (Nat.le_of_eq hg.symm)); have NF := As.mk (show rb ≠ fb ∧ g ≠ fb ∧ ob ≠ fb ∧ bp ≠ fb from ⟨by rw [hg]; exact Nat.ne_of_lt (blk_lt ST.out.hrb), by rw [hg]; exact Nat.ne_of_lt (blk_lt ST.out.hg), by rw [hg]; exact Nat.ne_of_lt (blk_lt ST.out.hob), by rw [hg]; exact Nat.ne_of_lt (blk_lt ST.out.hbp)⟩); have ST6 := As.mk ((ST.out.fresh (fb := fb) hg).below hb); clear hb hbox hg hb0 hb1 gb0 gb1 hx0 hx1 hx2 hx3 hx4; obtain ⟨hc0, hc1, hc2, hc3, hc4, hf0, hf1, hf2, hf3, hf4⟩ := cl5 FB.out))
   generalize hw : (((((w6).setCell ⟨fb, 0, none⟩ (.string (rd_T44 l0_1 x).f0)).setCell ⟨fb, 1, none⟩ (.slice Ap (rd_T44 l0_1 x).f1.length cp)).setCell ⟨fb, 2, none⟩ (.int .i64 (rd_T44 l0_1 x).f2)).setCell ⟨fb, 3, none⟩ (.int .i64 (rd_T44 l0_1 x).f3)).setCell ⟨fb, 4, none⟩ (.int .i64 (rd_T44 l0_1 x).f4) = w7
   have FB7 := As.mk (show w7.heap[fb]? = some (.cells #[.string (rd_T44 l0_1 x).f0, .slice Ap (rd_T44 l0_1 x).f1.length cp, .int .i64 (rd_T44 l0_1 x).f2, .int .i64 (rd_T44 l0_1 x).f3, .int .i64 (rd_T44 l0_1 x).f4] 44 (0, 0)) by
    rw [← hw]
    exact blk_put (cs := #[.string (rd_T44 l0_1 x).f0, .slice Ap (rd_T44 l0_1 x).f1.length cp, .int .i64 (rd_T44 l0_1 x).f2, .int .i64 (rd_T44 l0_1 x).f3, .int .i64 0]) (blk_put (cs := #[.string (rd_T44 l0_1 x).f0, .slice Ap (rd_T44 l0_1 x).f1.length cp, .int .i64 (rd_T44 l0_1 x).f2, .int .i64 0, .int .i64 0]) (blk_put (cs := #[.string (rd_T44 l0_1 x).f0, .slice Ap (rd_T44 l0_1 x).f1.length cp, .int .i64 0, .int .i64 0, .int .i64 0]) (blk_put (cs := #[.string (rd_T44 l0_1 x).f0, .slice none 0 0, .int .i64 0, .int .i64 0, .int .i64 0]) (blk_put (cs := #[.string (⟨#[]⟩ : ByteArray), .slice none 0 0, .int .i64 0, .int .i64 0, .int .i64 0]) (FB.out) 0 _ rfl) 1 _ rfl) 2 _ rfl) 3 _ rfl) 4 _ rfl)
   have ST7 := As.mk (show PkSt w 41 bp #[.slice A0_0 l0_0.length c0_0, (.slice (some ad) l0_1.length c0_1)] rb g ob (.slice A0_0 l0_0.length c0_0) (fun k => k ≠ fb) (fun k => k < fb) tv ov tc outs b w7 by
    rw [← hw]
    exact (((((ST6.out).far NF.out HFW.out 0 (.string (rd_T44 l0_1 x).f0)).far NF.out HFW.out 1 (.slice Ap (rd_T44 l0_1 x).f1.length cp)).far NF.out HFW.out 2 (.int .i64 (rd_T44 l0_1 x).f2)).far NF.out HFW.out 3 (.int .i64 (rd_T44 l0_1 x).f3)).far NF.out HFW.out 4 (.int .i64 (rd_T44 l0_1 x).f4))
   clear hw FB ST6 hc0 hc1 hc2 hc3 hc4 hf0 hf1 hf2 hf3 hf4
   have HPX := As.mk (show (rd_T44 l0_1 x).f1.length < 1000000000000 by rw [pkf_rd l0_1 x j HXJ.out HJX.out]; exact HPL.out _ (List.getElem_mem _))
   obtain ⟨⟨pa, ta, ba⟩, hpa⟩ : ∃ z, pkS_put l0_0 10 (rd_T44 l0_1 x).f3 tc b = z := ⟨_, rfl⟩
   have HPA := As.mk hpa
   clear hpa
   obtain ⟨hc0, hc1, hc2, hc3, hc4, hf0, hf1, hf2, hf3, hf4⟩ := cl5 FB7.out
   go_upto_region 8 with (first | ((with_reducible refine gate_dst (N := 25) rfl ?_); refine Kd.R_lit k80 _ 80 ?hg (N := 25) ?hd (xs := ([] : List S80)) (inner := []) (ok := fun _ => True) (okp := fun _ => True) ?hr ?hp (fun _ hk => hk) trivial (Below.refl _ _) (Nat.le_refl _) (by simp) ?_; (case hd => rfl); (case hg => rfl); (case hr => first | (go_simp; done) | (go_simp; rfl)); (case hp => exact (Reps.none _ _)); intro v25 w8 ho11 hb hg_ hnew_; clear hg_ hnew_; have ST8 := As.mk (ST7.out.below hb); have FB8 := As.mk (blk_below FB7.out hb); have HV8 := As.mk (Kd.R_lower (Kd.R_mono (ok' := fun k => fb < k) (Kd.R_bound ho11) (fun k h => Nat.lt_of_lt_of_le (blk_lt FB7.out) h.2.1)) (below_size ST7.out.hB)); clear hb ho11 ST7 FB7 hc0 hc1 hc2 hc3 hc4 hf0 hf1 hf2 hf3 hf4; obtain ⟨hc0, hc1, hc2, hc3, hc4, hf0, hf1, hf2, hf3, hf4⟩ := cl5 FB8.out) | ((with_reducible refine gate_builtin (b := .append) (xs := #[(.tmp 25), .tmp 27]) rfl ?_); at_builtin; refine Kd.R_append_rows k80 (w0 := w) w.heap.size rfl (.tmp 25) (.tmp 27) 42 80 (.agg #[(.string ⟨#[]⟩), (.int .i64 0)]) 24 rfl Try.underlying42 info80 rfl (by decide) (by omega) v25 ([] : List S80) ((rd_T44 l0_1 x).f1) _ _ _ (fun k => fb < k) (fun _ => False) rfl rfl ?aO ?aR (fun _ _ h => h) (fun _ h => h.elim) ?aF ?aB ?aS ?aL ?_; (case aR => exact (Kd.C_below HI.out ST8.out.hB)); (case aB => exact ST8.out.hB); (case aF => exact (fun k hk => Nat.lt_of_lt_of_le (blk_lt FB8.out) hk)); (case aO => exact HV8.out); (case aS => exact (below_size ST8.out.hB)); (case aL => have := HPX.out; rw [List.length_nil]; omega); intro v28 w9 ho hb hg hat; have PS9 := As.mk (ST8.out.side FB8.out (by decide) HV8.out hg hb); have HV9 := As.mk (show Kd.R k80 80 w9 w.heap.size (fun k => fb < k) v28 (rd_T44 l0_1 x).f1 by rw [List.nil_append] at ho; exact ho); clear ho hb hg hat ST8 FB8 HV8 hc0 hc1 hc2 hc3 hc4 hf0 hf1 hf2 hf3 hf4; obtain ⟨Aq, cq, eq⟩ := Kd.R_slice HV9.out; subst eq; obtain ⟨hc0, hc1, hc2, hc3, hc4, hf0, hf1, hf2, hf3, hf4⟩ := cl5 PS9.out.2))
   generalize hw : w9.setCell ⟨fb, 1, none⟩ (.slice Aq (rd_T44 l0_1 x).f1.length cq) = wA
   have FB9 := As.mk (show wA.heap[fb]? = some (.cells #[.string (rd_T44 l0_1 x).f0, .slice Aq (rd_T44 l0_1 x).f1.length cq, .int .i64 (rd_T44 l0_1 x).f2, .int .i64 (rd_T44 l0_1 x).f3, .int .i64 (rd_T44 l0_1 x).f4] 44 (0, 0)) by
    rw [← hw]
    exact blk_put (cs := #[.string (rd_T44 l0_1 x).f0, .slice Ap (rd_T44 l0_1 x).f1.length cp, .int .i64 (rd_T44 l0_1 x).f2, .int .i64 (rd_T44 l0_1 x).f3, .int .i64 (rd_T44 l0_1 x).f4]) PS9.out.2 1 _ rfl)
   have ST9 := As.mk (show PkSt w 41 bp #[.slice A0_0 l0_0.length c0_0, (.slice (some ad) l0_1.length c0_1)] rb g ob (.slice A0_0 l0_0.length c0_0) (fun k => k ≠ fb) (fun k => k < fb) tv ov tc outs b wA by
    rw [← hw]
    exact PS9.out.1.far NF.out HFW.out 1 _)
   have HVA := As.mk (show Kd.R k80 80 wA w.heap.size (fun k => fb < k) (.slice Aq (rd_T44 l0_1 x).f1.length cq : Value) (rd_T44 l0_1 x).f1 by
    rw [← hw]
    exact Kd.R_far HV9.out (fun k h => Nat.ne_of_gt h) _)
   clear hw PS9 HV9 hc0 hc1 hc2 hc3 hc4 hf0 hf1 hf2 hf3 hf4
   have HV9 := HVA
   clear HVA
   obtain ⟨hc0, hc1, hc2, hc3, hc4, hf0, hf1, hf2, hf3, hf4⟩ := cl5 FB9.out
   go_upto_region 9 with (first | ((with_reducible refine gate_callee (f := 13) rfl ?_); refine goesL_ (some 33) rfl rfl Try.func13 (by kernel_rfl) rfl #[.pointer (some ⟨g, 0, none⟩), .int .i64 (rd_T44 l0_1 x).f3, .int .i64 1] rfl (by (try simp only [lm]); first | done | rfl | (simp only [List.length_drop, List.length_take]; rfl)) ?_; (refine (pkS_put.st ST9.out FB9.out HG.out HR0_0.out (rd_T44 l0_1 x).f3 pa ta ba HPA.out).mono ?_); rintro e w10 ⟨tva, rfl, st_, hf_, hv_⟩; refine ⟨_, rfl, ?_⟩; have ST10 := As.mk st_; have FB10 := As.mk hf_; have HV10 := As.mk (hv_ _ _ HV9.out); clear st_ hf_ hv_ ST9 FB9 HV9 hc0 hc1 hc2 hc3 hc4 hf0 hf1 hf2 hf3 hf4; obtain ⟨hc0, hc1, hc2, hc3, hc4, hf0, hf1, hf2, hf3, hf4⟩ := cl5 FB10.out))
   generalize hw : w10.setCell ⟨fb, 3, none⟩ (.int .i64 pa) = w11
   have FB11 := As.mk (show w11.heap[fb]? = some (.cells #[.string (rd_T44 l0_1 x).f0, .slice Aq (rd_T44 l0_1 x).f1.length cq, .int .i64 (rd_T44 l0_1 x).f2, .int .i64 pa, .int .i64 (rd_T44 l0_1 x).f4] 44 (0, 0)) by
    rw [← hw]
    exact blk_put (cs := #[.string (rd_T44 l0_1 x).f0, .slice Aq (rd_T44 l0_1 x).f1.length cq, .int .i64 (rd_T44 l0_1 x).f2, .int .i64 (rd_T44 l0_1 x).f3, .int .i64 (rd_T44 l0_1 x).f4]) FB10.out 3 _ rfl)
   have ST11 := As.mk (show PkSt w 41 bp #[.slice A0_0 l0_0.length c0_0, (.slice (some ad) l0_1.length c0_1)] rb g ob (.slice A0_0 l0_0.length c0_0) (fun k => k ≠ fb) (fun k => k < fb) tva ov ta outs ba w11 by
    rw [← hw]
    exact ST10.out.far NF.out HFW.out 3 _)
   have HV11 := As.mk (show Kd.R k80 80 w11 w.heap.size (fun k => fb < k) (.slice Aq (rd_T44 l0_1 x).f1.length cq : Value) (rd_T44 l0_1 x).f1 by
    rw [← hw]
    exact Kd.R_far HV10.out (fun k h => Nat.ne_of_gt h) _)
   clear hw FB10 ST10 HV10 hc0 hc1 hc2 hc3 hc4 hf0 hf1 hf2 hf3 hf4
   by_cases h0 : 0 ≤ (rd_T44 l0_1 x).f4
   ·
    have c4b : decide (0 ≤ (rd_T44 l0_1 x).f4) = true := decide_eq_true h0
    have H0 := As.mk h0
    clear h0
    obtain ⟨⟨pb, tb, bb⟩, hpb⟩ : ∃ z, pkS_put l0_0 10 (rd_T44 l0_1 x).f4 ta ba = z := ⟨_, rfl⟩
    have HPB := As.mk hpb
    clear hpb
    obtain ⟨hc0, hc1, hc2, hc3, hc4, hf0, hf1, hf2, hf3, hf4⟩ := cl5 FB11.out
    go_upto_region 11 with (first | ((with_reducible refine gate_callee (f := 13) rfl ?_); refine goesL_ (some 41) rfl rfl Try.func13 (by kernel_rfl) rfl #[.pointer (some ⟨g, 0, none⟩), .int .i64 (rd_T44 l0_1 x).f4, .int .i64 1] rfl (by (try simp only [lm]); first | done | rfl | (simp only [List.length_drop, List.length_take]; rfl)) ?_; (refine (pkS_put.st ST11.out FB11.out HG.out HR0_0.out (rd_T44 l0_1 x).f4 pb tb bb HPB.out).mono ?_); rintro e w12 ⟨tvb, rfl, st_, hf_, hv_⟩; refine ⟨_, rfl, ?_⟩; have ST12 := As.mk st_; have FB12 := As.mk hf_; have HV12 := As.mk (hv_ _ _ HV11.out); clear st_ hf_ hv_ ST11 FB11 HV11 hc0 hc1 hc2 hc3 hc4 hf0 hf1 hf2 hf3 hf4; obtain ⟨hc0, hc1, hc2, hc3, hc4, hf0, hf1, hf2, hf3, hf4⟩ := cl5 FB12.out))
    generalize hw : w12.setCell ⟨fb, 4, none⟩ (.int .i64 pb) = w13
    have FB13 := As.mk (show w13.heap[fb]? = some (.cells #[.string (rd_T44 l0_1 x).f0, .slice Aq (rd_T44 l0_1 x).f1.length cq, .int .i64 (rd_T44 l0_1 x).f2, .int .i64 pa, .int .i64 pb] 44 (0, 0)) by
     rw [← hw]
     exact blk_put (cs := #[.string (rd_T44 l0_1 x).f0, .slice Aq (rd_T44 l0_1 x).f1.length cq, .int .i64 (rd_T44 l0_1 x).f2, .int .i64 pa, .int .i64 (rd_T44 l0_1 x).f4]) FB12.out 4 _ rfl)
    have ST13 := As.mk (show PkSt w 41 bp #[.slice A0_0 l0_0.length c0_0, (.slice (some ad) l0_1.length c0_1)] rb g ob (.slice A0_0 l0_0.length c0_0) (fun k => k ≠ fb) (fun k => k < fb) tvb ov tb outs bb w13 by
     rw [← hw]
     exact ST12.out.far NF.out HFW.out 4 _)
    have HV13 := As.mk (show Kd.R k80 80 w13 w.heap.size (fun k => fb < k) (.slice Aq (rd_T44 l0_1 x).f1.length cq : Value) (rd_T44 l0_1 x).f1 by
     rw [← hw]
     exact Kd.R_far HV12.out (fun k h => Nat.ne_of_gt h) _)
    clear hw FB12 ST12 HV12 hc0 hc1 hc2 hc3 hc4 hf0 hf1 hf2 hf3 hf4
    obtain ⟨Ao, co, eo⟩ := Kd.S_slice ST13.out.hO
    subst eo
    obtain ⟨hc0, hc1, hc2, hc3, hc4, hf0, hf1, hf2, hf3, hf4⟩ := cl5 FB13.out
    obtain ⟨hb0, hb1, gb0, gb1⟩ := cl2 ST13.out.hob
    go_wp2_with (first | ((with_reducible refine gate_builtin (b := .append) (xs := #[.tmp 44, .tmp 46]) rfl ?_); (try (refine gate_guard (by rfl) ?_; dsimp only)); at_builtin; refine Kd.S_append k44 (w0 := w) w.heap.size rfl (.tmp 44) (.tmp 46) 28 44 (.agg #[(.string ⟨#[]⟩), (.slice none 0 0), (.int .i64 0), (.int .i64 0), (.int .i64 0)]) 64 rfl Try.underlying28 info44 rfl (by decide) (by omega) (.slice Ao outs.length co) outs (⟨(rd_T44 l0_1 x).f0, (rd_T44 l0_1 x).f1, (rd_T44 l0_1 x).f2, pa, pb⟩ : S44) [.string (rd_T44 l0_1 x).f0, .slice Aq (rd_T44 l0_1 x).f1.length cq, .int .i64 (rd_T44 l0_1 x).f2, .int .i64 pa, .int .i64 pb] (fun _ => True) (fun k_ => some k_ = (.slice Aq (rd_T44 l0_1 x).f1.length cq : Value).ownBlock) rfl rfl ?aP ?aK ?aF ?aO ?aB ?aS ?aL ?_; (case aP => exact k44_mkM _ _ _ (⟨(rd_T44 l0_1 x).f0, (rd_T44 l0_1 x).f1, (rd_T44 l0_1 x).f2, pa, pb⟩ : S44) (Kd.R_tight rfl HV13.out)); (case aK => exact (fun k hk => ⟨trivial, fun e => by obtain ⟨c1, h1⟩ := Kd.R_typed HV13.out k hk.symm; obtain ⟨c2, h2⟩ := Kd.S_typed ST13.out.hO k e.symm; exact pkt_ne h1 h2 (by decide) rfl⟩)); (case aF => exact (fun _ _ => trivial)); (case aO => exact (Kd.S_mono ST13.out.hO (fun k h => ⟨trivial, fun e => Nat.lt_asymm h (HV13.out.1 k e.symm)⟩))); (case aB => exact ST13.out.hB); (case aS => exact (below_size ST13.out.hB)); (case aL => have := HOL.out; have := HJX.out; have := HLL.out; omega); intro v16 w16 ho hb hg hat; obtain ⟨A16, c16, e16⟩ := Kd.S_slice ho; subst e16; have PU := As.mk (ST13.out.push (A' := A16) (n' := (outs ++ [(⟨(rd_T44 l0_1 x).f0, (rd_T44 l0_1 x).f1, (rd_T44 l0_1 x).f2, pa, pb⟩ : S44)]).length) (c' := c16) ⟨by decide, by decide⟩ hg ho hb NOR.out.symm NOB.out.symm GO.out ⟨_, _, _, rfl⟩); clear ho hb hg hat hb0 hb1 gb0 gb1; obtain ⟨hb0, hb1, gb0, gb1⟩ := cl2 PU.out.1))
    have hlo : (outs ++ [(⟨(rd_T44 l0_1 x).f0, (rd_T44 l0_1 x).f1, (rd_T44 l0_1 x).f2, pa, pb⟩ : S44)]).length = outs.length + 1 := by rw [List.length_append]; rfl
    have PU2 := PU.out.2
    rw [hlo] at PU2
    go_roundg (gk - 1)
    case measure => have := HJ.out; have := HJX.out; omega
    case rel => exact ⟨_, j + 1, outs ++ [(⟨(rd_T44 l0_1 x).f0, (rd_T44 l0_1 x).f1, (rd_T44 l0_1 x).f2, pa, pb⟩ : S44)], tb, _, _, bb, rfl, ⟨by have := HXJ.out; have := HJX.out; have := HLM.out; first | omega | (unfold wrap64; omega)⟩, ⟨by have := HJ.out; have := HJX.out; omega⟩, ⟨by rw [hlo, HOL.out]⟩, ⟨by rw [← HE.out, pk_fns_yes (pkS_put l0_0 10) l0_1 x j HXJ.out HJX.out tc ta tb b ba bb pa pb outs HPA.out HPB.out H0.out]⟩, ⟨PU2⟩⟩
   ·
    have c4b : decide (0 ≤ (rd_T44 l0_1 x).f4) = false := decide_eq_false h0
    have H0 := As.mk h0
    clear h0
    obtain ⟨hc0, hc1, hc2, hc3, hc4, hf0, hf1, hf2, hf3, hf4⟩ := cl5 FB11.out
    go_upto_region 11 with (fail)
    clear hc0 hc1 hc2 hc3 hc4 hf0 hf1 hf2 hf3 hf4
    obtain ⟨Ao, co, eo⟩ := Kd.S_slice ST11.out.hO
    subst eo
    obtain ⟨hc0, hc1, hc2, hc3, hc4, hf0, hf1, hf2, hf3, hf4⟩ := cl5 FB11.out
    obtain ⟨hb0, hb1, gb0, gb1⟩ := cl2 ST11.out.hob
    go_wp2_with (first | ((with_reducible refine gate_builtin (b := .append) (xs := #[.tmp 44, .tmp 46]) rfl ?_); (try (refine gate_guard (by rfl) ?_; dsimp only)); at_builtin; refine Kd.S_append k44 (w0 := w) w.heap.size rfl (.tmp 44) (.tmp 46) 28 44 (.agg #[(.string ⟨#[]⟩), (.slice none 0 0), (.int .i64 0), (.int .i64 0), (.int .i64 0)]) 64 rfl Try.underlying28 info44 rfl (by decide) (by omega) (.slice Ao outs.length co) outs (⟨(rd_T44 l0_1 x).f0, (rd_T44 l0_1 x).f1, (rd_T44 l0_1 x).f2, pa, (rd_T44 l0_1 x).f4⟩ : S44) [.string (rd_T44 l0_1 x).f0, .slice Aq (rd_T44 l0_1 x).f1.length cq, .int .i64 (rd_T44 l0_1 x).f2, .int .i64 pa, .int .i64 (rd_T44 l0_1 x).f4] (fun _ => True) (fun k_ => some k_ = (.slice Aq (rd_T44 l0_1 x).f1.length cq : Value).ownBlock) rfl rfl ?aP ?aK ?aF ?aO ?aB ?aS ?aL ?_; (case aP => exact k44_mkM _ _ _ (⟨(rd_T44 l0_1 x).f0, (rd_T44 l0_1 x).f1, (rd_T44 l0_1 x).f2, pa, (rd_T44 l0_1 x).f4⟩ : S44) (Kd.R_tight rfl HV11.out)); (case aK => exact (fun k hk => ⟨trivial, fun e => by obtain ⟨c1, h1⟩ := Kd.R_typed HV11.out k hk.symm; obtain ⟨c2, h2⟩ := Kd.S_typed ST11.out.hO k e.symm; exact pkt_ne h1 h2 (by decide) rfl⟩)); (case aF => exact (fun _ _ => trivial)); (case aO => exact (Kd.S_mono ST11.out.hO (fun k h => ⟨trivial, fun e => Nat.lt_asymm h (HV11.out.1 k e.symm)⟩))); (case aB => exact ST11.out.hB); (case aS => exact (below_size ST11.out.hB)); (case aL => have := HOL.out; have := HJX.out; have := HLL.out; omega); intro v16 w16 ho hb hg hat; obtain ⟨A16, c16, e16⟩ := Kd.S_slice ho; subst e16; have PU := As.mk (ST11.out.push (A' := A16) (n' := (outs ++ [(⟨(rd_T44 l0_1 x).f0, (rd_T44 l0_1 x).f1, (rd_T44 l0_1 x).f2, pa, (rd_T44 l0_1 x).f4⟩ : S44)]).length) (c' := c16) ⟨by decide, by decide⟩ hg ho hb NOR.out.symm NOB.out.symm GO.out ⟨_, _, _, rfl⟩); clear ho hb hg hat hb0 hb1 gb0 gb1; obtain ⟨hb0, hb1, gb0, gb1⟩ := cl2 PU.out.1))
    have hlo : (outs ++ [(⟨(rd_T44 l0_1 x).f0, (rd_T44 l0_1 x).f1, (rd_T44 l0_1 x).f2, pa, (rd_T44 l0_1 x).f4⟩ : S44)]).length = outs.length + 1 := by rw [List.length_append]; rfl
    have PU2 := PU.out.2
    rw [hlo] at PU2
    go_roundg (gk - 1)
    case measure => have := HJ.out; have := HJX.out; omega
    case rel => exact ⟨_, j + 1, outs ++ [(⟨(rd_T44 l0_1 x).f0, (rd_T44 l0_1 x).f1, (rd_T44 l0_1 x).f2, pa, (rd_T44 l0_1 x).f4⟩ : S44)], ta, _, _, ba, rfl, ⟨by have := HXJ.out; have := HJX.out; have := HLM.out; first | omega | (unfold wrap64; omega)⟩, ⟨by have := HJ.out; have := HJX.out; omega⟩, ⟨by rw [hlo, HOL.out]⟩, ⟨by rw [← HE.out, pk_fns_no (pkS_put l0_0 10) l0_1 x j HXJ.out HJX.out tc ta b ba pa outs HPA.out (by have := H0.out; omega)]⟩, ⟨PU2⟩⟩
  ·
   have c2b0 : decide (x < (l0_1.length : Int)) = false := decide_eq_false hj
   have HE2 := As.mk (show (tc, b, outs) = R by rw [← HE.out, List.drop_eq_nil_of_le (by have := HXJ.out; omega)]; rfl)
   clear hj
   have H := HRES.out
   rw [← HE2.out] at H
   dsimp only at H
   obtain ⟨A5, c5, e5⟩ := Kd.S_slice ST.out.hT
   subst e5
   obtain ⟨A6, c6, e6⟩ := Kd.S_slice ST.out.hO
   subst e6
   have hlt : tc.length ≤ 9223372036854775807 := Kd.F_max (Kd.S_F ST.out.hT)
   obtain ⟨hp0, hp1, hp2, hp3⟩ := cl2 ST.out.hbp
   obtain ⟨hc0, hc1, hc2, hf0, hf1, hf2⟩ := cl3 ST.out.hg
   obtain ⟨hb0, hb1, gb0, gb1⟩ := cl2 ST.out.hrb
   obtain ⟨hd0, hd1, gd0, gd1⟩ := cl2 ST.out.hob
   cases b with
   | true =>
    rw [if_pos (.inl rfl)] at H
    simp only [Option.some.injEq, Prod.mk.injEq] at H
    obtain ⟨rfl, rfl, rfl⟩ := H
    go_wp2_with (fail)
    refine bodyPost_ret (results_ct rfl _ _ rb 30 #[.slice none 0 0, .slice none 0 0] (0, 0) _ rfl (blk_put (cs := #[.slice none 0 0, .slice none 0 0]) (blk_put (cs := #[.slice none 0 0, .slice none 0 0]) ST.out.hrb 0 _ rfl) 1 _ rfl) Try.underlying30 rfl (by kernel_rfl)) rfl ?_
    exact ⟨_, _, ez, Kd.S_nil _ _ _ _ _, Kd.S_nil _ _ _ _ _, below_set (below_set ST.out.hB GR.out) GR.out⟩
   | false =>
    by_cases c9 : 300 < tc.length
    ·
     have c9b : decide ((300 : Int) < (tc.length : Int)) = true := decide_eq_true (by omega)
     rw [if_pos (.inr c9)] at H
     clear c9
     simp only [Option.some.injEq, Prod.mk.injEq] at H
     obtain ⟨rfl, rfl, rfl⟩ := H
     go_wp2_with (fail)
     refine bodyPost_ret (results_ct rfl _ _ rb 30 #[.slice none 0 0, .slice none 0 0] (0, 0) _ rfl (blk_put (cs := #[.slice none 0 0, .slice none 0 0]) (blk_put (cs := #[.slice none 0 0, .slice none 0 0]) ST.out.hrb 0 _ rfl) 1 _ rfl) Try.underlying30 rfl (by kernel_rfl)) rfl ?_
     exact ⟨_, _, ez, Kd.S_nil _ _ _ _ _, Kd.S_nil _ _ _ _ _, below_set (below_set ST.out.hB GR.out) GR.out⟩
    have c9b : decide ((300 : Int) < (tc.length : Int)) = false := decide_eq_false (by omega)
    rw [if_neg (by rintro (h | h); · cases h
                   · exact c9 h)] at H
    clear c9
    simp only [Option.some.injEq, Prod.mk.injEq] at H
    obtain ⟨rfl, rfl, rfl⟩ := H
    go_upto_region 15 with (fail)
    generalize hw : wr.setCell ⟨ob, 0, none⟩ (.slice A5 tc.length c5) = wa
    have OBa := As.mk (show wa.heap[ob]? = some (.cells #[.slice A5 tc.length c5, .slice A6 outs.length c6] 30 (0, 0)) by rw [← hw]; exact blk_put (cs := #[.slice none 0 0, .slice A6 outs.length c6]) ST.out.hob 0 _ rfl)
    have RBa := As.mk (show wa.heap[rb]? = some (.cells #[.slice none 0 0, .slice none 0 0] 30 (0, 0)) by rw [← hw]; exact blk_far ST.out.hrb NOR.out.symm _)
    have HTa := As.mk (show Kd.S k64 64 wa w.heap.size (fun _ => True) (.slice A5 tc.length c5) tc by rw [← hw]; exact Kd.S_set ST.out.hT ST.out.hob (by decide) 0 _)
    have HOa := As.mk (show Kd.S k44 44 wa w.heap.size (fun _ => True) (.slice A6 outs.length c6) outs by rw [← hw]; exact Kd.S_set ST.out.hO ST.out.hob (by decide) 0 _)
    have HBa := As.mk (show Below w.heap.size w wa by rw [← hw]; exact below_set ST.out.hB GO.out)
    clear hw hb0 hb1 gb0 gb1 hd0 hd1 gd0 gd1 hc0 hc1 hc2 hf0 hf1 hf2 ST
    obtain ⟨hb0, hb1, gb0, gb1⟩ := cl2 RBa.out
    obtain ⟨hd0, hd1, gd0, gd1⟩ := cl2 OBa.out
    go_wp2_with (fail)
    have RBb := blk_put (cs := #[.slice none 0 0, .slice none 0 0]) RBa.out 0 (.slice A5 tc.length c5) rfl
    refine bodyPost_ret (results_ct rfl _ _ rb 30 #[.slice A5 tc.length c5, .slice A6 outs.length c6] (0, 0) _ rfl (blk_put (cs := #[.slice A5 tc.length c5, .slice none 0 0]) RBb 1 _ rfl) Try.underlying30 rfl (by kernel_rfl)) rfl ?_
    exact ⟨_, _, ez, Kd.S_set (Kd.S_set HTa.out RBa.out (by decide) 0 _) RBb (by decide) 1 _, Kd.S_set (Kd.S_set HOa.out RBa.out (by decide) 0 _) RBb (by decide) 1 _, below_set (below_set HBa.out GR.out) GR.out⟩

end Go.Proofs.Ytnepkmbknoanjaa.PFnExactPacked
