/- The program's VarAt returns what the reference's returns, for all lists of vars and all names, and leaves its arguments as they are. No condition beside what the statement itself asks. -/
import Derived.Test.YtaoelobgpilmjaaPFnExactVarAtx2
import Derived.Test.YtaoelobgpilmjaaRdFnExactVarAt
set_option linter.unusedVariables false
set_option linter.unusedSimpArgs false
namespace Go.Proofs.Ytaoelobgpilmjaa.Pure
open Go.RowKit Go.Proofs.Ytaoelobgpilmjaa.PFnExactVarAt Go.Proofs.Ytaoelobgpilmjaa.RdFnExactVarAt Go.Proofs.YtaoelobgpilmjaaW.PrintWords Go.Proofs.YtaoelobgpilmjaaW.PrintLast

theorem b_w64 {x : Int} (h0 : -9223372036854775808 ≤ x) (h1 : x ≤ 9223372036854775807) : wrap64 x = x := by unfold wrap64; omega
theorem b_i64 {x : Int} (h : (Lit.int .i64 x).wf = true) : -9223372036854775808 ≤ x ∧ x ≤ 9223372036854775807 := by
  simp only [Lit.wf, Bool.and_eq_true, decide_eq_true_eq] at h
  have h1 : IntKind.i64.min = -9223372036854775808 := by decide
  have h2 : IntKind.i64.max = 9223372036854775807 := by decide
  omega
theorem b_u32 {x : Int} (h : (Lit.int .u32 x).wf = true) : 0 ≤ x ∧ x < 4294967296 := by
  simp only [Lit.wf, Bool.and_eq_true, decide_eq_true_eq] at h
  have h1 : IntKind.u32.min = 0 := by decide
  have h2 : IntKind.u32.max = 4294967295 := by decide
  omega
theorem b_tmod {x y : Int} (h : 0 ≤ x) : Int.tmod x y = x % y := Int.tmod_eq_emod_of_nonneg h
theorem b_tdiv {x y : Int} (h : 0 ≤ x) : Int.tdiv x y = x / y := Int.tdiv_eq_ediv_of_nonneg h
theorem b_ev_eq {α : Type} {g : Nat → Option α} {r r' : α} (h : Ev g r) (e : r = r') : Ev g r' := e ▸ h
theorem b_two {α β : Type} {g : Nat → Option α} {f : Nat → Option β} {a : α} {b : β} (h : Ev g a) (h' : Ev f b) : ∃ k, g k = some a ∧ f k = some b := by
  obtain ⟨K, h⟩ := h
  obtain ⟨K', h'⟩ := h'
  exact ⟨max K K', h _ (by omega), h' _ (by omega)⟩
theorem b_list_take_succ {α : Type} (l : List α) (i : Nat) (h : i < l.length) : l.take (i + 1) = l.take i ++ [l[i]] := by
  rw [List.take_succ_eq_append_getElem h]
theorem ev_a0 {α : Type} {F : Nat → Option α} {r : α} (H : ∀ k, F k = some r) : Ev F r := ⟨0, fun k _ => H k⟩
theorem ev_s0 {α : Type} {F : Nat → Option α} {r : α} (H : ∀ k, F (k + 1) = some r) : Ev F r := by
  refine ⟨1, fun k hk => ?_⟩
  obtain ⟨m, rfl⟩ : ∃ m, k = m + 1 := ⟨k - 1, by omega⟩
  exact H m
theorem ev_a1 {α β : Type} {F : Nat → Option α} {r : α} {g : Nat → Option β} {a : β} (ha : Ev g a) (H : ∀ k, g k = some a → F k = some r) : Ev F r := by
  obtain ⟨K, ha⟩ := ha
  exact ⟨K, fun k hk => H k (ha k hk)⟩
theorem ev_s1 {α β : Type} {F : Nat → Option α} {r : α} {g : Nat → Option β} {a : β} (ha : Ev g a) (H : ∀ k, g k = some a → F (k + 1) = some r) : Ev F r := by
  obtain ⟨K, ha⟩ := ha
  refine ⟨K + 1, fun k hk => ?_⟩
  obtain ⟨m, rfl⟩ : ∃ m, k = m + 1 := ⟨k - 1, by omega⟩
  exact H m (ha m (by omega))
theorem ev_and {α β : Type} {g : Nat → Option α} {f : Nat → Option β} {a : α} {b : β} (ha : Ev g a) (hb : Ev f b) : ∃ K, ∀ k, K ≤ k → g k = some a ∧ f k = some b := by
  obtain ⟨K, ha⟩ := ha
  obtain ⟨K', hb⟩ := hb
  exact ⟨max K K', fun k hk => ⟨ha k (by omega), hb k (by omega)⟩⟩
theorem ev_a2 {α β γ : Type} {F : Nat → Option α} {r : α} {g : Nat → Option β} {a : β} {f : Nat → Option γ} {b : γ} (ha : Ev g a) (hb : Ev f b) (H : ∀ k, g k = some a → f k = some b → F k = some r) : Ev F r := by
  obtain ⟨K, h⟩ := ev_and ha hb
  exact ⟨K, fun k hk => H k (h k hk).1 (h k hk).2⟩
theorem ev_s2 {α β γ : Type} {F : Nat → Option α} {r : α} {g : Nat → Option β} {a : β} {f : Nat → Option γ} {b : γ} (ha : Ev g a) (hb : Ev f b) (H : ∀ k, g k = some a → f k = some b → F (k + 1) = some r) : Ev F r := by
  obtain ⟨K, h⟩ := ev_and ha hb
  refine ⟨K + 1, fun k hk => ?_⟩
  obtain ⟨m, rfl⟩ : ∃ m, k = m + 1 := ⟨k - 1, by omega⟩
  exact H m (h m (by omega)).1 (h m (by omega)).2
theorem ev_a3 {α β γ δ : Type} {F : Nat → Option α} {r : α} {g : Nat → Option β} {a : β} {f : Nat → Option γ} {b : γ} {e : Nat → Option δ} {c : δ} (ha : Ev g a) (hb : Ev f b) (hc : Ev e c) (H : ∀ k, g k = some a → f k = some b → e k = some c → F k = some r) : Ev F r := by
  obtain ⟨K, h⟩ := ev_and ha hb
  obtain ⟨K', h'⟩ := hc
  exact ⟨max K K', fun k hk => H k (h k (by omega)).1 (h k (by omega)).2 (h' k (by omega))⟩
theorem ev_s3 {α β γ δ : Type} {F : Nat → Option α} {r : α} {g : Nat → Option β} {a : β} {f : Nat → Option γ} {b : γ} {e : Nat → Option δ} {c : δ} (ha : Ev g a) (hb : Ev f b) (hc : Ev e c) (H : ∀ k, g k = some a → f k = some b → e k = some c → F (k + 1) = some r) : Ev F r := by
  obtain ⟨K, h⟩ := ev_and ha hb
  obtain ⟨K', h'⟩ := hc
  refine ⟨max K K' + 1, fun k hk => ?_⟩
  obtain ⟨m, rfl⟩ : ∃ m, k = m + 1 := ⟨k - 1, by omega⟩
  exact H m (h m (by omega)).1 (h m (by omega)).2 (h' m (by omega))
def evp {α β : Type} (x : Option α) (y : Option β) : Option (α × β) := x.bind fun a => y.bind fun b => some (a, b)
theorem ev_pair {α β : Type} {g : Nat → Option α} {f : Nat → Option β} {a : α} {b : β} (ha : Ev g a) (hb : Ev f b) : Ev (fun k => evp (g k) (f k)) (a, b) :=
  ev_a2 ha hb (fun k e e2 => by simp [evp, e, e2])
theorem ev_pair_l {α β : Type} {x : Option α} {y : Option β} {a : α} {b : β} (h : evp x y = some (a, b)) : x = some a := by
  unfold evp at h
  cases x with
  | none => simp at h
  | some x => cases y with
    | none => simp at h
    | some y => simp at h; simp [h.1]
theorem ev_pair_r {α β : Type} {x : Option α} {y : Option β} {a : α} {b : β} (h : evp x y = some (a, b)) : y = some b := by
  unfold evp at h
  cases x with
  | none => simp at h
  | some x => cases y with
    | none => simp at h
    | some y => simp at h; simp [h.2]

theorem set_at {α : Type} : ∀ (a : List α) (b : α) (r : List α) (v : α) (i : Nat), a.length = i → (a ++ b :: r).set i v = a ++ v :: r
  | [], b, r, v, i, h => by subst h; rfl
  | x :: a, b, r, v, i, h => by
    subst h
    simp only [List.cons_append, List.length_cons, List.set_cons_succ, set_at a b r v a.length rfl]
theorem copy_step {α β : Type} (f : α → β) (xs : List α) (z : β) (i : Nat) (h : i < xs.length) :
    ((xs.take i).map f ++ List.replicate (xs.length - i) z).set i (f xs[i]) = (xs.take (i + 1)).map f ++ List.replicate (xs.length - (i + 1)) z := by
  rw [show xs.length - i = (xs.length - (i + 1)) + 1 by omega, List.replicate_succ, set_at _ _ _ _ i (by simp; omega), List.take_succ_eq_append_getElem h, List.map_append, List.append_assoc]
  rfl
theorem rd_nat (xs : List Int) (i : Nat) (h : i < xs.length) : rd xs (i : Int) = xs[i] := by
  unfold rd
  rw [Int.toNat_natCast, List.getD_eq_getElem?_getD, List.getElem?_eq_getElem h]; rfl
theorem getD_nat {α : Type} (xs : List α) (z : α) (i : Nat) (h : i < xs.length) : xs.getD ((i : Int)).toNat z = xs[i] := by
  rw [Int.toNat_natCast, List.getD_eq_getElem?_getD, List.getElem?_eq_getElem h]; rfl
theorem w_succ {i : Nat} (h : i < 4611686018427387904) : wrap64 ((i : Int) + 1) = ((i + 1 : Nat) : Int) := by unfold wrap64; omega
theorem drop_eq {α : Type} (a b : List α) (i : Nat) (ha : i < a.length) (hb : i < b.length) : a.drop i = b.drop i ↔ a[i] = b[i] ∧ a.drop (i + 1) = b.drop (i + 1) := by
  rw [List.drop_eq_getElem_cons ha, List.drop_eq_getElem_cons hb, List.cons.injEq]

theorem laws_szVarS_l0 (l : List S91) (hG : ∀ x ∈ l, x.f0.size ≤ maxLen) : ∀ (d i : Nat) (a : Int), i + d = l.length → l.length ≤ 1048576 → 0 ≤ a → a ≤ 1048576 → ∃ r, Ev (fun k => laws_szVarS.l0 k l a (i : Int)) r
  | 0, i, a, h, hl, h0, h1 => ⟨a, by
    refine ev_s0 (fun k => ?_)
    simp only [laws_szVarS.l0]
    rw [if_neg (by omega)]⟩
  | d + 1, i, a, h, hl, h0, h1 => by
    have hi : i < l.length := by omega
    have hs := hG l[i] (List.getElem_mem hi)
    unfold maxLen at hs
    have er : rd_T91 l (i : Int) = l[i] := getD_nat l z91 i hi
    have e : wrap64 (a - (l[i].f0.size : Int)) = a - l[i].f0.size := b_w64 (by omega) (by omega)
    by_cases c : a - (l[i].f0.size : Int) < 0
    · refine ⟨-1, ev_s0 (fun k => ?_)⟩
      simp only [laws_szVarS.l0, laws_szVar.f]
      rw [if_pos (by omega), if_pos (by omega), er, e, if_pos c, Option.bind_some, if_pos (by omega)]
    · obtain ⟨r, hr⟩ := laws_szVarS_l0 l hG d (i + 1) (a - l[i].f0.size) (by omega) hl (by omega) (by omega)
      refine ⟨r, ev_s1 hr (fun k e2 => ?_)⟩
      simp only [laws_szVarS.l0, laws_szVar.f]
      rw [if_pos (by omega), if_pos (by omega), er, e, if_neg c, Option.bind_some, if_neg c, w_succ (by omega)]
      exact e2
theorem laws_szVarS_ev (l : List S91) (hm : l.length ≤ maxLen) (hG : ∀ x ∈ l, x.f0.size ≤ maxLen) : ∃ r, Ev (fun k => laws_szVarS.f k l 1048576) r ∧ (l.length ≤ 1048576 ∨ r < 0) := by
  unfold maxLen at hm
  have e : wrap64 (1048576 - (l.length : Int)) = 1048576 - l.length := b_w64 (by omega) (by omega)
  by_cases c : (1048576 : Int) - l.length < 0
  · refine ⟨-1, ev_a0 (fun k => ?_), .inr (by omega)⟩
    simp only [laws_szVarS.f]
    rw [e, if_pos c]
  · obtain ⟨r, hr⟩ := laws_szVarS_l0 l hG l.length 0 (1048576 - l.length) (by omega) (by omega) (by omega) (by omega)
    refine ⟨r, ev_a1 hr (fun k e2 => ?_), .inl (by omega)⟩
    simp only [laws_szVarS.f]
    rw [e, if_neg c]
    exact e2
def cvVar (x : S91) : S92 := ⟨x.f0, x.f1, x.f2⟩
theorem laws_toVarS_l0 (l : List S91) (hl : l.length ≤ 1048576) : ∀ (d i : Nat), i + d = l.length →
    Ev (fun k => laws_toVarS.l0 k l ((l.take i).map cvVar ++ List.replicate (l.length - i) z92) (i : Int)) (l.map cvVar)
  | 0, i, h => by
    refine ev_s0 (fun k => ?_)
    simp only [laws_toVarS.l0]
    rw [if_neg (by omega), show l.length - i = 0 by omega, show i = l.length by omega]; simp
  | d + 1, i, h => by
    refine ev_s1 (laws_toVarS_l0 l hl d (i + 1) (by omega)) (fun k e => ?_)
    have hi : i < l.length := by omega
    have er : rd_T91 l (i : Int) = l[i] := getD_nat l z91 i hi
    simp only [laws_toVarS.l0, laws_toVar.f]
    rw [if_pos (by omega), if_pos (by omega), Option.bind_some, if_pos (by simp; omega), Int.toNat_natCast, er, show (⟨l[i].f0, l[i].f1, l[i].f2⟩ : S92) = cvVar l[i] from rfl, copy_step cvVar l z92 i hi, w_succ (by omega)]
    exact e
theorem laws_toVarS_ev (l : List S91) (hl : l.length ≤ 1048576) : Ev (fun k => laws_toVarS.f k l) (l.map cvVar) := by
  refine ev_a1 (laws_toVarS_l0 l hl l.length 0 (by omega)) (fun k e => ?_)
  simp only [laws_toVarS.f]
  rw [if_pos (by omega), Int.toNat_natCast, if_pos (by omega)]
  simpa using e
theorem laws_eqVarS_l0 (a : List S92) (hl : a.length ≤ 1048576) : ∀ (d i : Nat), i + d = a.length → Ev (fun k => laws_eqVarS.l0 k a a (i : Int)) true
  | 0, i, h => by
    refine ev_s0 (fun k => ?_)
    simp only [laws_eqVarS.l0]
    rw [if_neg (by omega)]
  | d + 1, i, h => by
    refine ev_s1 (laws_eqVarS_l0 a hl d (i + 1) (by omega)) (fun k e => ?_)
    simp only [laws_eqVarS.l0, laws_eqVar.f]
    rw [if_pos (by omega), if_pos (by omega), if_pos (by omega)]
    simp only [if_true, Option.bind_some]
    rw [w_succ (by omega)]
    exact e
theorem laws_eqVarS_ev (a : List S92) (hl : a.length ≤ 1048576) : Ev (fun k => laws_eqVarS.f k a a) true := by
  refine ev_a1 (laws_eqVarS_l0 a hl a.length 0 (by omega)) (fun k e => ?_)
  simp only [laws_eqVarS.f, if_true]
  exact e
def varAtR (l : List S92) (s : ByteArray) : Nat → Nat → Int
  | 0, _ => -1
  | d + 1, i => if (rd_T92 l (i : Int)).f0.toList = s.toList then (i : Int) else varAtR l s d (i + 1)
theorem spec_VarAt_l0 (l : List S92) (s : ByteArray) (hl : l.length ≤ 1048576) : ∀ (d i : Nat), i + d = l.length → Ev (fun k => spec_VarAt.l0 k l s (i : Int)) (varAtR l s d i)
  | 0, i, h => by
    refine ev_s0 (fun k => ?_)
    simp only [spec_VarAt.l0]
    rw [if_neg (by omega)]; rfl
  | d + 1, i, h => by
    refine ev_s1 (spec_VarAt_l0 l s hl d (i + 1) (by omega)) (fun k e => ?_)
    simp only [spec_VarAt.l0, varAtR]
    rw [if_pos (by omega), if_pos (by omega), w_succ (by omega), e]
    split <;> rfl
theorem impl_VarAt_l0 (l : List S92) (s : ByteArray) (hl : l.length ≤ 1048576) : ∀ (d i : Nat), i + d = l.length → Ev (fun k => impl_VarAt.l0 k s l (l.length : Int) (i : Int)) (varAtR l s d i)
  | 0, i, h => by
    refine ev_s0 (fun k => ?_)
    simp only [impl_VarAt.l0]
    rw [if_neg (by omega)]; rfl
  | d + 1, i, h => by
    refine ev_s1 (impl_VarAt_l0 l s hl d (i + 1) (by omega)) (fun k e => ?_)
    simp only [impl_VarAt.l0, varAtR]
    rw [if_pos (by omega), if_pos (by omega), if_pos (by omega), w_succ (by omega), e]
    split <;> rfl
theorem spec_VarAt_ev (l : List S92) (s : ByteArray) (hl : l.length ≤ 1048576) : Ev (fun k => spec_VarAt.f k l s) (varAtR l s l.length 0) := spec_VarAt_l0 l s hl l.length 0 (by omega)
theorem impl_VarAt_ev (l : List S92) (s : ByteArray) (hl : l.length ≤ 1048576) : Ev (fun k => impl_VarAt.f k l s) (varAtR l s l.length 0) := impl_VarAt_l0 l s hl l.length 0 (by omega)

theorem FnExactVarAt : ∀ (l0 : List S91) (a1 : ByteArray), (l0.length ≤ maxLen ∧ ∀ a ∈ l0, G91 a) → a1.size ≤ 140737488351232 → ∃ k, laws_FnExactVarAt.f k l0 a1 = some true := by
  intro l s hl hs
  by_cases hb : (s.size : Int) > 1048576
  · exact ⟨0, by simp only [laws_FnExactVarAt.f]; rw [if_pos hb]⟩
  · obtain ⟨r, hr, hc⟩ := laws_szVarS_ev l hl.1 (fun x hx => (hl.2 x hx).1)
    by_cases c : r < 0
    · refine Ev.rounds (ev_a1 hr (fun k e => ?_))
      simp only [laws_FnExactVarAt.f]
      rw [if_neg hb, e, Option.bind_some, if_pos c]
    · have q : l.length ≤ 1048576 := by rcases hc with h | h <;> omega
      have q' : (l.map cvVar).length ≤ 1048576 := by simpa using q
      refine Ev.rounds (ev_a3 (ev_pair hr (laws_toVarS_ev l q)) (ev_pair (spec_VarAt_ev _ s q') (impl_VarAt_ev _ s q')) (laws_eqVarS_ev _ q') (fun k e1 e2 e3 => ?_))
      have f1 := ev_pair_l e1
      have f2 := ev_pair_r e1
      have f3 := ev_pair_l e2
      have f4 := ev_pair_r e2
      simp only [laws_FnExactVarAt.f]
      rw [if_neg hb, f1, Option.bind_some, if_neg c]
      simp only [f2, f3, f4, e3, Option.bind_some, if_true]
end Go.Proofs.Ytaoelobgpilmjaa.Pure
