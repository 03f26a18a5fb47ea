/- The program's SameEnding returns what the reference's returns, for all endings, and leaves its arguments as they are. No condition beside what the statement itself asks. -/
import Derived.Test.YtaoelobgpilmjaaPFnExactSameEndingx3
import Derived.Test.YtaoelobgpilmjaaRdFnExactSameEnding
set_option linter.unusedVariables false
set_option linter.unusedSimpArgs false
namespace Go.Proofs.Ytaoelobgpilmjaa.Pure
open Go.RowKit Go.Proofs.Ytaoelobgpilmjaa.PFnExactSameEnding Go.Proofs.Ytaoelobgpilmjaa.RdFnExactSameEnding Go.Proofs.YtaoelobgpilmjaaW.PrintWords Go.Proofs.YtaoelobgpilmjaaW.PrintLast

theorem b_w64 {x : Int} (h0 : -9223372036854775808 ≤ x) (h1 : x ≤ 9223372036854775807) : wrap64 x = x := by unfold wrap64; omega
theorem b_i64 {x : Int} (h : (Lit.int .i64 x).wf = true) : -9223372036854775808 ≤ x ∧ x ≤ 9223372036854775807 := by
  simp only [Lit.wf, Bool.and_eq_true, decide_eq_true_eq] at h
  have h1 : IntKind.i64.min = -9223372036854775808 := by decide
  have h2 : IntKind.i64.max = 9223372036854775807 := by decide
  omega
theorem b_u32 {x : Int} (h : (Lit.int .u32 x).wf = true) : 0 ≤ x ∧ x < 4294967296 := by
  simp only [Lit.wf, Bool.and_eq_true, decide_eq_true_eq] at h
  have h1 : IntKind.u32.min = 0 := by decide
  have h2 : IntKind.u32.max = 4294967295 := by decide
  omega
theorem b_tmod {x y : Int} (h : 0 ≤ x) : Int.tmod x y = x % y := Int.tmod_eq_emod_of_nonneg h
theorem b_tdiv {x y : Int} (h : 0 ≤ x) : Int.tdiv x y = x / y := Int.tdiv_eq_ediv_of_nonneg h
theorem b_ev_eq {α : Type} {g : Nat → Option α} {r r' : α} (h : Ev g r) (e : r = r') : Ev g r' := e ▸ h
theorem b_two {α β : Type} {g : Nat → Option α} {f : Nat → Option β} {a : α} {b : β} (h : Ev g a) (h' : Ev f b) : ∃ k, g k = some a ∧ f k = some b := by
  obtain ⟨K, h⟩ := h
  obtain ⟨K', h'⟩ := h'
  exact ⟨max K K', h _ (by omega), h' _ (by omega)⟩
theorem b_list_take_succ {α : Type} (l : List α) (i : Nat) (h : i < l.length) : l.take (i + 1) = l.take i ++ [l[i]] := by
  rw [List.take_succ_eq_append_getElem h]
theorem ev_a0 {α : Type} {F : Nat → Option α} {r : α} (H : ∀ k, F k = some r) : Ev F r := ⟨0, fun k _ => H k⟩
theorem ev_s0 {α : Type} {F : Nat → Option α} {r : α} (H : ∀ k, F (k + 1) = some r) : Ev F r := by
  refine ⟨1, fun k hk => ?_⟩
  obtain ⟨m, rfl⟩ : ∃ m, k = m + 1 := ⟨k - 1, by omega⟩
  exact H m
theorem ev_a1 {α β : Type} {F : Nat → Option α} {r : α} {g : Nat → Option β} {a : β} (ha : Ev g a) (H : ∀ k, g k = some a → F k = some r) : Ev F r := by
  obtain ⟨K, ha⟩ := ha
  exact ⟨K, fun k hk => H k (ha k hk)⟩
theorem ev_s1 {α β : Type} {F : Nat → Option α} {r : α} {g : Nat → Option β} {a : β} (ha : Ev g a) (H : ∀ k, g k = some a → F (k + 1) = some r) : Ev F r := by
  obtain ⟨K, ha⟩ := ha
  refine ⟨K + 1, fun k hk => ?_⟩
  obtain ⟨m, rfl⟩ : ∃ m, k = m + 1 := ⟨k - 1, by omega⟩
  exact H m (ha m (by omega))
theorem ev_and {α β : Type} {g : Nat → Option α} {f : Nat → Option β} {a : α} {b : β} (ha : Ev g a) (hb : Ev f b) : ∃ K, ∀ k, K ≤ k → g k = some a ∧ f k = some b := by
  obtain ⟨K, ha⟩ := ha
  obtain ⟨K', hb⟩ := hb
  exact ⟨max K K', fun k hk => ⟨ha k (by omega), hb k (by omega)⟩⟩
theorem ev_a2 {α β γ : Type} {F : Nat → Option α} {r : α} {g : Nat → Option β} {a : β} {f : Nat → Option γ} {b : γ} (ha : Ev g a) (hb : Ev f b) (H : ∀ k, g k = some a → f k = some b → F k = some r) : Ev F r := by
  obtain ⟨K, h⟩ := ev_and ha hb
  exact ⟨K, fun k hk => H k (h k hk).1 (h k hk).2⟩
theorem ev_s2 {α β γ : Type} {F : Nat → Option α} {r : α} {g : Nat → Option β} {a : β} {f : Nat → Option γ} {b : γ} (ha : Ev g a) (hb : Ev f b) (H : ∀ k, g k = some a → f k = some b → F (k + 1) = some r) : Ev F r := by
  obtain ⟨K, h⟩ := ev_and ha hb
  refine ⟨K + 1, fun k hk => ?_⟩
  obtain ⟨m, rfl⟩ : ∃ m, k = m + 1 := ⟨k - 1, by omega⟩
  exact H m (h m (by omega)).1 (h m (by omega)).2
theorem ev_a3 {α β γ δ : Type} {F : Nat → Option α} {r : α} {g : Nat → Option β} {a : β} {f : Nat → Option γ} {b : γ} {e : Nat → Option δ} {c : δ} (ha : Ev g a) (hb : Ev f b) (hc : Ev e c) (H : ∀ k, g k = some a → f k = some b → e k = some c → F k = some r) : Ev F r := by
  obtain ⟨K, h⟩ := ev_and ha hb
  obtain ⟨K', h'⟩ := hc
  exact ⟨max K K', fun k hk => H k (h k (by omega)).1 (h k (by omega)).2 (h' k (by omega))⟩
theorem ev_s3 {α β γ δ : Type} {F : Nat → Option α} {r : α} {g : Nat → Option β} {a : β} {f : Nat → Option γ} {b : γ} {e : Nat → Option δ} {c : δ} (ha : Ev g a) (hb : Ev f b) (hc : Ev e c) (H : ∀ k, g k = some a → f k = some b → e k = some c → F (k + 1) = some r) : Ev F r := by
  obtain ⟨K, h⟩ := ev_and ha hb
  obtain ⟨K', h'⟩ := hc
  refine ⟨max K K' + 1, fun k hk => ?_⟩
  obtain ⟨m, rfl⟩ : ∃ m, k = m + 1 := ⟨k - 1, by omega⟩
  exact H m (h m (by omega)).1 (h m (by omega)).2 (h' m (by omega))
def evp {α β : Type} (x : Option α) (y : Option β) : Option (α × β) := x.bind fun a => y.bind fun b => some (a, b)
theorem ev_pair {α β : Type} {g : Nat → Option α} {f : Nat → Option β} {a : α} {b : β} (ha : Ev g a) (hb : Ev f b) : Ev (fun k => evp (g k) (f k)) (a, b) :=
  ev_a2 ha hb (fun k e e2 => by simp [evp, e, e2])
theorem ev_pair_l {α β : Type} {x : Option α} {y : Option β} {a : α} {b : β} (h : evp x y = some (a, b)) : x = some a := by
  unfold evp at h
  cases x with
  | none => simp at h
  | some x => cases y with
    | none => simp at h
    | some y => simp at h; simp [h.1]
theorem ev_pair_r {α β : Type} {x : Option α} {y : Option β} {a : α} {b : β} (h : evp x y = some (a, b)) : y = some b := by
  unfold evp at h
  cases x with
  | none => simp at h
  | some x => cases y with
    | none => simp at h
    | some y => simp at h; simp [h.2]

theorem set_at {α : Type} : ∀ (a : List α) (b : α) (r : List α) (v : α) (i : Nat), a.length = i → (a ++ b :: r).set i v = a ++ v :: r
  | [], b, r, v, i, h => by subst h; rfl
  | x :: a, b, r, v, i, h => by
    subst h
    simp only [List.cons_append, List.length_cons, List.set_cons_succ, set_at a b r v a.length rfl]
theorem copy_step {α β : Type} (f : α → β) (xs : List α) (z : β) (i : Nat) (h : i < xs.length) :
    ((xs.take i).map f ++ List.replicate (xs.length - i) z).set i (f xs[i]) = (xs.take (i + 1)).map f ++ List.replicate (xs.length - (i + 1)) z := by
  rw [show xs.length - i = (xs.length - (i + 1)) + 1 by omega, List.replicate_succ, set_at _ _ _ _ i (by simp; omega), List.take_succ_eq_append_getElem h, List.map_append, List.append_assoc]
  rfl
theorem rd_nat (xs : List Int) (i : Nat) (h : i < xs.length) : rd xs (i : Int) = xs[i] := by
  unfold rd
  rw [Int.toNat_natCast, List.getD_eq_getElem?_getD, List.getElem?_eq_getElem h]; rfl
theorem getD_nat {α : Type} (xs : List α) (z : α) (i : Nat) (h : i < xs.length) : xs.getD ((i : Int)).toNat z = xs[i] := by
  rw [Int.toNat_natCast, List.getD_eq_getElem?_getD, List.getElem?_eq_getElem h]; rfl
theorem w_succ {i : Nat} (h : i < 4611686018427387904) : wrap64 ((i : Int) + 1) = ((i + 1 : Nat) : Int) := by unfold wrap64; omega
theorem drop_eq {α : Type} (a b : List α) (i : Nat) (ha : i < a.length) (hb : i < b.length) : a.drop i = b.drop i ↔ a[i] = b[i] ∧ a.drop (i + 1) = b.drop (i + 1) := by
  rw [List.drop_eq_getElem_cons ha, List.drop_eq_getElem_cons hb, List.cons.injEq]

theorem laws_szIntS_is (l : List Int) (a : Int) (h0 : 0 ≤ a) (h1 : a ≤ 1048576) (hl : l.length ≤ maxLen) : laws_szIntS.f l a = some (if a < l.length then -1 else a - l.length) := by
  unfold maxLen at hl
  have e : wrap64 (a - (l.length : Int)) = a - l.length := b_w64 (by omega) (by omega)
  simp only [laws_szIntS.f]
  rw [e]
  by_cases c : a < l.length
  · rw [if_pos (by omega), if_pos c]
  · rw [if_neg (by omega), if_neg c]
theorem laws_toIntS_l0 (l : List Int) (hl : l.length ≤ 1048576) : ∀ (d i : Nat), i + d = l.length →
    Ev (fun k => laws_toIntS.l0 k l ((l.take i).map id ++ List.replicate (l.length - i) 0) (i : Int)) l
  | 0, i, h => by
    refine ev_s0 (fun k => ?_)
    simp only [laws_toIntS.l0]
    rw [if_neg (by omega), show l.length - i = 0 by omega, show i = l.length by omega]; simp
  | d + 1, i, h => by
    refine ev_s1 (laws_toIntS_l0 l hl d (i + 1) (by omega)) (fun k e => ?_)
    have hi : i < l.length := by omega
    simp only [laws_toIntS.l0]
    rw [if_pos (by omega), if_pos (by omega), if_pos (by simp; omega), Int.toNat_natCast, rd_nat l i hi, show l[i] = id l[i] from rfl, copy_step id l 0 i hi, w_succ (by omega)]
    exact e
theorem laws_toIntS_ev (l : List Int) (hl : l.length ≤ 1048576) : Ev (fun k => laws_toIntS.f k l) l := by
  refine ev_a1 (laws_toIntS_l0 l hl l.length 0 (by omega)) (fun k e => ?_)
  simp only [laws_toIntS.f]
  rw [if_pos (by omega), Int.toNat_natCast, if_pos (by omega)]
  simpa using e
theorem laws_eqIntS_l0 (a : List Int) (hl : a.length ≤ 1048576) : ∀ (d i : Nat), i + d = a.length → Ev (fun k => laws_eqIntS.l0 k a a (i : Int)) true
  | 0, i, h => by
    refine ev_s0 (fun k => ?_)
    simp only [laws_eqIntS.l0]
    rw [if_neg (by omega)]
  | d + 1, i, h => by
    refine ev_s1 (laws_eqIntS_l0 a hl d (i + 1) (by omega)) (fun k e => ?_)
    simp only [laws_eqIntS.l0, if_true]
    rw [if_pos (by omega), if_pos (by omega), if_pos (by omega), w_succ (by omega)]
    exact e
theorem laws_eqIntS_ev (a : List Int) (hl : a.length ≤ 1048576) : Ev (fun k => laws_eqIntS.f k a a) true := by
  refine ev_a1 (laws_eqIntS_l0 a hl a.length 0 (by omega)) (fun k e => ?_)
  simp only [laws_eqIntS.f, if_true]
  exact e

theorem impl_sameInts_l0 (a b : List Int) (hl : a.length ≤ 1048576) (hb : a.length = b.length) : ∀ (d i : Nat), i + d = a.length → Ev (fun k => impl_sameInts.l0 k a b (a.length : Int) (i : Int)) (decide (a.drop i = b.drop i))
  | 0, i, h => by
    refine ev_s0 (fun k => ?_)
    simp only [impl_sameInts.l0]
    rw [if_neg (by omega), List.drop_eq_nil_of_le (by omega), List.drop_eq_nil_of_le (by omega)]; simp
  | d + 1, i, h => by
    have ha : i < a.length := by omega
    have hb' : i < b.length := by omega
    refine ev_s1 (impl_sameInts_l0 a b hl hb d (i + 1) (by omega)) (fun k e => ?_)
    simp only [impl_sameInts.l0]
    rw [if_pos (by omega), if_pos (by omega), if_pos (by omega), if_pos (by omega), rd_nat a i ha, rd_nat b i hb', w_succ (by omega), e]
    by_cases c : a[i] = b[i]
    · rw [if_pos c]; simp only [drop_eq a b i ha hb', c, true_and]
    · rw [if_neg c]; simp only [drop_eq a b i ha hb', c, false_and, decide_false]
theorem impl_sameInts_ev (a b : List Int) (hl : a.length ≤ 1048576) : Ev (fun k => impl_sameInts.f k a b) (decide (a = b)) := by
  by_cases c : a.length = b.length
  · refine ev_a1 (impl_sameInts_l0 a b hl c a.length 0 (by omega)) (fun k e => ?_)
    simp only [impl_sameInts.f]
    rw [if_pos (by omega)]
    simpa using e
  · refine ev_a0 (fun k => ?_)
    simp only [impl_sameInts.f]
    rw [if_neg (by omega)]
    congr 1
    exact (decide_eq_false (fun h => c (by rw [h]))).symm
theorem spec_SameEnding_l0 (a : List Int) (ae : Int) (b : List Int) (be : Int) (hl : a.length ≤ 1048576) (hb : a.length = b.length) : ∀ (d i : Nat), i + d = a.length → Ev (fun k => spec_SameEnding.l0 k (i : Int) a ae b be) (decide (a.drop i = b.drop i))
  | 0, i, h => by
    refine ev_s0 (fun k => ?_)
    simp only [spec_SameEnding.l0]
    rw [if_neg (by omega), List.drop_eq_nil_of_le (by omega), List.drop_eq_nil_of_le (by omega)]; simp
  | d + 1, i, h => by
    have ha : i < a.length := by omega
    have hb' : i < b.length := by omega
    refine ev_s1 (spec_SameEnding_l0 a ae b be hl hb d (i + 1) (by omega)) (fun k e => ?_)
    simp only [spec_SameEnding.l0]
    rw [if_pos (by omega), if_pos (by omega), if_pos (by omega), rd_nat a i ha, rd_nat b i hb', w_succ (by omega), e]
    by_cases c : a[i] = b[i]
    · rw [if_pos c]; simp only [drop_eq a b i ha hb', c, true_and]
    · rw [if_neg c]; simp only [drop_eq a b i ha hb', c, false_and, decide_false]
theorem spec_SameEnding_ev (a : List Int) (ae : Int) (b : List Int) (be : Int) (hl : a.length ≤ 1048576) : Ev (fun k => spec_SameEnding.f k a ae b be) (decide (ae = be ∧ a = b)) := by
  by_cases c0 : ae = be
  · by_cases c : a.length = b.length
    · refine ev_s1 (spec_SameEnding_l0 a ae b be hl c a.length 0 (by omega)) (fun k e => ?_)
      simp only [spec_SameEnding.f, spec_SameEnding.j0]
      rw [if_pos c0, if_neg (show ¬((a.length : Int) != (b.length : Int)) = true by simp; omega)]
      simpa [c0] using e
    · refine ev_s0 (fun k => ?_)
      simp only [spec_SameEnding.f, spec_SameEnding.j0]
      rw [if_pos c0, if_pos (show ((a.length : Int) != (b.length : Int)) = true by simp; omega)]
      congr 1
      exact (decide_eq_false (fun h => c (by rw [h.2]))).symm
  · refine ev_s0 (fun k => ?_)
    simp only [spec_SameEnding.f, spec_SameEnding.j0, if_true]
    rw [if_neg c0]
    congr 1
    exact (decide_eq_false (fun h => c0 h.1)).symm
theorem impl_SameEnding_ev (a : List Int) (ae : Int) (b : List Int) (be : Int) (hl : a.length ≤ 1048576) : Ev (fun k => impl_SameEnding.f k a ae b be) (decide (ae = be ∧ a = b)) := by
  by_cases c0 : ae = be
  · refine ev_a1 (impl_sameInts_ev a b hl) (fun k e => ?_)
    simp only [impl_SameEnding.f]
    rw [if_pos c0, e, Option.bind_some]
    simp [c0]
  · refine ev_a0 (fun k => ?_)
    simp only [impl_SameEnding.f]
    rw [if_neg c0]
    congr 1
    exact (decide_eq_false (fun h => c0 h.1)).symm
theorem laws_szEnding_is (l : List Int) (e a : Int) (h0 : 0 ≤ a) (h1 : a ≤ 1048576) (hl : l.length ≤ maxLen) : laws_szEnding.f l e a = some (if a < l.length then -1 else a - l.length) := by
  simp only [laws_szEnding.f]
  rw [laws_szIntS_is l a h0 h1 hl, Option.bind_some]
  by_cases c : a < l.length
  · rw [if_pos c, if_pos (by omega)]
  · rw [if_neg c, if_neg (by omega)]
theorem laws_toEnding_ev (l : List Int) (e : Int) (hl : l.length ≤ 1048576) : Ev (fun k => laws_toEnding.f k l e) (l, e) :=
  ev_a1 (laws_toIntS_ev l hl) (fun k h => by simp only [laws_toEnding.f]; rw [h, Option.bind_some])
theorem laws_eqEnding_ev (l : List Int) (e : Int) (hl : l.length ≤ 1048576) : Ev (fun k => laws_eqEnding.f k l e l e) true :=
  ev_a1 (laws_eqIntS_ev l hl) (fun k h => by simp only [laws_eqEnding.f, if_true]; rw [h, Option.bind_some, if_pos rfl])

theorem FnExactSameEnding : ∀ (l0_0 : List Int) (a0_1 : Int) (l1_0 : List Int) (a1_1 : Int), (l0_0.length ≤ maxLen ∧ ∀ a ∈ l0_0, (Lit.int .i64 a).wf = true) → (Lit.int .i64 a0_1).wf = true → (l1_0.length ≤ maxLen ∧ ∀ a ∈ l1_0, (Lit.int .i64 a).wf = true) → (Lit.int .i64 a1_1).wf = true → ∃ k, laws_FnExactSameEnding.f k l0_0 a0_1 l1_0 a1_1 = some true := by
  intro a ae b be hl ha hm hb
  by_cases c : (1048576 : Int) < a.length
  · refine ⟨0, ?_⟩
    simp only [laws_FnExactSameEnding.f]
    rw [laws_szEnding_is a ae 1048576 (by omega) (by omega) hl.1, Option.bind_some, if_pos c, if_pos (by omega)]
  · by_cases c2 : (1048576 : Int) - a.length < b.length
    · refine ⟨0, ?_⟩
      simp only [laws_FnExactSameEnding.f]
      rw [laws_szEnding_is a ae 1048576 (by omega) (by omega) hl.1, Option.bind_some, if_neg c, if_neg (show ¬(1048576 : Int) - a.length < 0 by omega), laws_szEnding_is b be _ (by omega) (by omega) hm.1, Option.bind_some, if_pos c2, if_pos (show (-1 : Int) < 0 by omega)]
    · have qa : a.length ≤ 1048576 := by omega
      have qb : b.length ≤ 1048576 := by omega
      refine Ev.rounds (ev_a3 (ev_pair (laws_toEnding_ev a ae qa) (laws_toEnding_ev b be qb)) (ev_pair (spec_SameEnding_ev a ae b be qa) (impl_SameEnding_ev a ae b be qa)) (ev_pair (laws_eqEnding_ev a ae qa) (laws_eqEnding_ev b be qb)) (fun k e1 e2 e3 => ?_))
      have f1 := ev_pair_l e1
      have f2 := ev_pair_r e1
      have f3 := ev_pair_l e2
      have f4 := ev_pair_r e2
      have f5 := ev_pair_l e3
      have f6 := ev_pair_r e3
      simp only [laws_FnExactSameEnding.f]
      rw [laws_szEnding_is a ae 1048576 (by omega) (by omega) hl.1, Option.bind_some, if_neg c, if_neg (show ¬(1048576 : Int) - a.length < 0 by omega), laws_szEnding_is b be _ (by omega) (by omega) hm.1, Option.bind_some, if_neg c2, if_neg (by omega)]
      simp only [f1, f2, f3, f4, f5, f6, Option.bind_some]
      simp
end Go.Proofs.Ytaoelobgpilmjaa.Pure
