/- The program's SignsOf returns what the reference's returns, for every text, and shares no memory. No condition beside what the statement itself asks. -/
import Derived.Test.YtodicbbeaidibaaDoorPFnExactSignsOfx6
set_option linter.unusedVariables false
set_option linter.unusedSimpArgs false
namespace Go.Proofs.YtodicbbeaidibaaDoor.Pure
open Go.RowKit Go.Proofs.YtodicbbeaidibaaDoor.PFnExactSignsOf Go.Proofs.YtodicbbeaidibaaDoorW.PrintWords Go.Proofs.YtodicbbeaidibaaDoorW.PrintLast

theorem b_w64 {x : Int} (h0 : -9223372036854775808 ≤ x) (h1 : x ≤ 9223372036854775807) : wrap64 x = x := by unfold wrap64; omega
theorem b_i64 {x : Int} (h : (Lit.int .i64 x).wf = true) : -9223372036854775808 ≤ x ∧ x ≤ 9223372036854775807 := by
  simp only [Lit.wf, Bool.and_eq_true, decide_eq_true_eq] at h
  have h1 : IntKind.i64.min = -9223372036854775808 := by decide
  have h2 : IntKind.i64.max = 9223372036854775807 := by decide
  omega
theorem b_u32 {x : Int} (h : (Lit.int .u32 x).wf = true) : 0 ≤ x ∧ x < 4294967296 := by
  simp only [Lit.wf, Bool.and_eq_true, decide_eq_true_eq] at h
  have h1 : IntKind.u32.min = 0 := by decide
  have h2 : IntKind.u32.max = 4294967295 := by decide
  omega
theorem b_tmod {x y : Int} (h : 0 ≤ x) : Int.tmod x y = x % y := Int.tmod_eq_emod_of_nonneg h
theorem b_tdiv {x y : Int} (h : 0 ≤ x) : Int.tdiv x y = x / y := Int.tdiv_eq_ediv_of_nonneg h
theorem b_ev_eq {α : Type} {g : Nat → Option α} {r r' : α} (h : Ev g r) (e : r = r') : Ev g r' := e ▸ h
theorem b_two {α β : Type} {g : Nat → Option α} {f : Nat → Option β} {a : α} {b : β} (h : Ev g a) (h' : Ev f b) : ∃ k, g k = some a ∧ f k = some b := by
  obtain ⟨K, h⟩ := h
  obtain ⟨K', h'⟩ := h'
  exact ⟨max K K', h _ (by omega), h' _ (by omega)⟩
theorem b_list_take_succ {α : Type} (l : List α) (i : Nat) (h : i < l.length) : l.take (i + 1) = l.take i ++ [l[i]] := by
  rw [List.take_succ_eq_append_getElem h]
theorem ev_a0 {α : Type} {F : Nat → Option α} {r : α} (H : ∀ k, F k = some r) : Ev F r := ⟨0, fun k _ => H k⟩
theorem ev_s0 {α : Type} {F : Nat → Option α} {r : α} (H : ∀ k, F (k + 1) = some r) : Ev F r := by
  refine ⟨1, fun k hk => ?_⟩
  obtain ⟨m, rfl⟩ : ∃ m, k = m + 1 := ⟨k - 1, by omega⟩
  exact H m
theorem ev_a1 {α β : Type} {F : Nat → Option α} {r : α} {g : Nat → Option β} {a : β} (ha : Ev g a) (H : ∀ k, g k = some a → F k = some r) : Ev F r := by
  obtain ⟨K, ha⟩ := ha
  exact ⟨K, fun k hk => H k (ha k hk)⟩
theorem ev_s1 {α β : Type} {F : Nat → Option α} {r : α} {g : Nat → Option β} {a : β} (ha : Ev g a) (H : ∀ k, g k = some a → F (k + 1) = some r) : Ev F r := by
  obtain ⟨K, ha⟩ := ha
  refine ⟨K + 1, fun k hk => ?_⟩
  obtain ⟨m, rfl⟩ : ∃ m, k = m + 1 := ⟨k - 1, by omega⟩
  exact H m (ha m (by omega))
theorem ev_and {α β : Type} {g : Nat → Option α} {f : Nat → Option β} {a : α} {b : β} (ha : Ev g a) (hb : Ev f b) : ∃ K, ∀ k, K ≤ k → g k = some a ∧ f k = some b := by
  obtain ⟨K, ha⟩ := ha
  obtain ⟨K', hb⟩ := hb
  exact ⟨max K K', fun k hk => ⟨ha k (by omega), hb k (by omega)⟩⟩
theorem ev_a2 {α β γ : Type} {F : Nat → Option α} {r : α} {g : Nat → Option β} {a : β} {f : Nat → Option γ} {b : γ} (ha : Ev g a) (hb : Ev f b) (H : ∀ k, g k = some a → f k = some b → F k = some r) : Ev F r := by
  obtain ⟨K, h⟩ := ev_and ha hb
  exact ⟨K, fun k hk => H k (h k hk).1 (h k hk).2⟩
theorem ev_s2 {α β γ : Type} {F : Nat → Option α} {r : α} {g : Nat → Option β} {a : β} {f : Nat → Option γ} {b : γ} (ha : Ev g a) (hb : Ev f b) (H : ∀ k, g k = some a → f k = some b → F (k + 1) = some r) : Ev F r := by
  obtain ⟨K, h⟩ := ev_and ha hb
  refine ⟨K + 1, fun k hk => ?_⟩
  obtain ⟨m, rfl⟩ : ∃ m, k = m + 1 := ⟨k - 1, by omega⟩
  exact H m (h m (by omega)).1 (h m (by omega)).2
theorem ev_a3 {α β γ δ : Type} {F : Nat → Option α} {r : α} {g : Nat → Option β} {a : β} {f : Nat → Option γ} {b : γ} {e : Nat → Option δ} {c : δ} (ha : Ev g a) (hb : Ev f b) (hc : Ev e c) (H : ∀ k, g k = some a → f k = some b → e k = some c → F k = some r) : Ev F r := by
  obtain ⟨K, h⟩ := ev_and ha hb
  obtain ⟨K', h'⟩ := hc
  exact ⟨max K K', fun k hk => H k (h k (by omega)).1 (h k (by omega)).2 (h' k (by omega))⟩
theorem ev_s3 {α β γ δ : Type} {F : Nat → Option α} {r : α} {g : Nat → Option β} {a : β} {f : Nat → Option γ} {b : γ} {e : Nat → Option δ} {c : δ} (ha : Ev g a) (hb : Ev f b) (hc : Ev e c) (H : ∀ k, g k = some a → f k = some b → e k = some c → F (k + 1) = some r) : Ev F r := by
  obtain ⟨K, h⟩ := ev_and ha hb
  obtain ⟨K', h'⟩ := hc
  refine ⟨max K K' + 1, fun k hk => ?_⟩
  obtain ⟨m, rfl⟩ : ∃ m, k = m + 1 := ⟨k - 1, by omega⟩
  exact H m (h m (by omega)).1 (h m (by omega)).2 (h' m (by omega))
def evp {α β : Type} (x : Option α) (y : Option β) : Option (α × β) := x.bind fun a => y.bind fun b => some (a, b)
theorem ev_pair {α β : Type} {g : Nat → Option α} {f : Nat → Option β} {a : α} {b : β} (ha : Ev g a) (hb : Ev f b) : Ev (fun k => evp (g k) (f k)) (a, b) :=
  ev_a2 ha hb (fun k e e2 => by simp [evp, e, e2])
theorem ev_pair_l {α β : Type} {x : Option α} {y : Option β} {a : α} {b : β} (h : evp x y = some (a, b)) : x = some a := by
  unfold evp at h
  cases x with
  | none => simp at h
  | some x => cases y with
    | none => simp at h
    | some y => simp at h; simp [h.1]
theorem ev_pair_r {α β : Type} {x : Option α} {y : Option β} {a : α} {b : β} (h : evp x y = some (a, b)) : y = some b := by
  unfold evp at h
  cases x with
  | none => simp at h
  | some x => cases y with
    | none => simp at h
    | some y => simp at h; simp [h.2]

def isLe (x : Int) : Bool := decide (97 ≤ x ∧ x ≤ 122)
def isFi (x : Int) : Bool := decide (48 ≤ x ∧ x ≤ 57)
theorem spec_letter_is (x : Int) : spec_l03Letter.f x = some (isLe x) := by
  unfold spec_l03Letter.f isLe
  by_cases c : x ≥ 97
  · rw [if_pos c]; by_cases d : x ≤ 122 <;> simp [d, c]
  · rw [if_neg c]; simp; intro h; omega
theorem spec_figure_is (x : Int) : spec_l03Figure.f x = some (isFi x) := by
  unfold spec_l03Figure.f isFi
  by_cases c : x ≥ 48
  · rw [if_pos c]; by_cases d : x ≤ 57 <;> simp [d, c]
  · rw [if_neg c]; simp; intro h; omega
theorem impl_letter_is (x : Int) : impl_isLetter.f x = some (isLe x) := spec_letter_is x
theorem impl_figure_is (x : Int) : impl_isFigure.f x = some (isFi x) := spec_figure_is x

theorem impl_in_is (x y z : Int) : impl_in.f x y z = some (decide (y ≤ x ∧ x ≤ z)) := by
  unfold impl_in.f
  by_cases c : x ≥ y
  · rw [if_pos c]; by_cases d : x ≤ z <;> simp [d, c]
  · rw [if_neg c]; simp; intro h; omega

theorem laws_markText_l0 : ∀ (d : Nat) (n : Nat) (s : ByteArray), n < 10 ^ d → n < 9223372036854775808 → s.size + d ≤ 1000 → ∃ r, Ev (fun k => laws_markText.l0 k (n : Int) s) r
  | 0, n, s, h, hb, hs => by
    have : n = 0 := by omega
    subst this
    refine ⟨(⟨#[109]⟩ : ByteArray) ++ s, ev_s0 (fun k => ?_)⟩
    simp only [laws_markText.l0]
    rw [if_neg (by omega), if_pos (by omega)]
  | d + 1, n, s, h, hb, hs => by
    by_cases c : n = 0
    · subst c
      refine ⟨(⟨#[109]⟩ : ByteArray) ++ s, ev_s0 (fun k => ?_)⟩
      simp only [laws_markText.l0]
      rw [if_neg (by omega), if_pos (by omega)]
    · have hd : n / 10 < 10 ^ d := by rw [Nat.div_lt_iff_lt_mul (by decide), ← Nat.pow_succ]; exact h
      obtain ⟨r, hr⟩ := laws_markText_l0 d (n / 10) (strOfNums [((48 + n % 10 : Nat) : Int)] ++ s) hd (by omega) (by rw [ByteArray.size_append, strOfNums_size]; simp; omega)
      refine ⟨r, ev_s1 hr (fun k e => ?_)⟩
      have e1 : wrap64 (48 + Int.tmod (n : Int) 10) % 256 = ((48 + n % 10 : Nat) : Int) := by rw [b_tmod (by omega)]; unfold wrap64; omega
      have e2 : wrap64 (Int.tdiv (n : Int) 10) = ((n / 10 : Nat) : Int) := by rw [b_tdiv (by omega)]; unfold wrap64; omega
      simp only [laws_markText.l0]
      rw [if_pos (by omega), e1, Option.bind_some, if_pos (by rw [strOfNums_size]; simp; omega), e2]
      exact e
theorem laws_markText_tot (n : Int) (h0 : 0 ≤ n) (h1 : n < 9223372036854775808) : ∃ r, Ev (fun k => laws_markText.f k n) r := by
  obtain ⟨m, rfl⟩ := Int.eq_ofNat_of_zero_le h0
  by_cases c : (m : Int) ≤ 0
  · exact ⟨_, ev_a0 (fun k => by simp only [laws_markText.f]; rw [if_pos c])⟩
  · obtain ⟨r, hr⟩ := laws_markText_l0 20 m (⟨#[]⟩ : ByteArray) (by omega) (by omega) (by decide)
    exact ⟨r, ev_a1 hr (fun k e => by simp only [laws_markText.f]; rw [if_neg c]; exact e)⟩
open Classical in
noncomputable def mt (n : Int) : ByteArray := if h : ∃ r, Ev (fun k => laws_markText.f k n) r then h.choose else ByteArray.empty
theorem mt_ev (n : Int) (h0 : 0 ≤ n) (h1 : n < 9223372036854775808) : Ev (fun k => laws_markText.f k n) (mt n) := by
  have h := laws_markText_tot n h0 h1
  unfold mt
  rw [dif_pos h]
  exact h.choose_spec

theorem set_at {α : Type} : ∀ (a : List α) (b : α) (r : List α) (v : α) (i : Nat), a.length = i → (a ++ b :: r).set i v = a ++ v :: r
  | [], b, r, v, i, h => by subst h; rfl
  | x :: a, b, r, v, i, h => by
    subst h
    simp only [List.cons_append, List.length_cons, List.set_cons_succ, set_at a b r v a.length rfl]
theorem copy_step {α β : Type} (f : α → β) (xs : List α) (z : β) (i : Nat) (h : i < xs.length) :
    ((xs.take i).map f ++ List.replicate (xs.length - i) z).set i (f xs[i]) = (xs.take (i + 1)).map f ++ List.replicate (xs.length - (i + 1)) z := by
  rw [show xs.length - i = (xs.length - (i + 1)) + 1 by omega, List.replicate_succ, set_at _ _ _ _ i (by simp; omega), List.take_succ_eq_append_getElem h, List.map_append, List.append_assoc]
  rfl
theorem rd_nat (xs : List Int) (i : Nat) (h : i < xs.length) : rd xs (i : Int) = xs[i] := by
  unfold rd
  rw [Int.toNat_natCast, List.getD_eq_getElem?_getD, List.getElem?_eq_getElem h]; rfl
theorem getD_nat {α : Type} (xs : List α) (z : α) (i : Nat) (h : i < xs.length) : xs.getD ((i : Int)).toNat z = xs[i] := by
  rw [Int.toNat_natCast, List.getD_eq_getElem?_getD, List.getElem?_eq_getElem h]; rfl
theorem w_succ {i : Nat} (h : i < 4611686018427387904) : wrap64 ((i : Int) + 1) = ((i + 1 : Nat) : Int) := by unfold wrap64; omega
theorem drop_eq {α : Type} (a b : List α) (i : Nat) (ha : i < a.length) (hb : i < b.length) : a.drop i = b.drop i ↔ a[i] = b[i] ∧ a.drop (i + 1) = b.drop (i + 1) := by
  rw [List.drop_eq_getElem_cons ha, List.drop_eq_getElem_cons hb, List.cons.injEq]

abbrev SgT := S45
theorem rdG_nat (xs : List SgT) (i : Nat) (h : i < xs.length) : rd_T45 xs (i : Int) = xs[i] := by
  unfold rd_T45
  exact getD_nat xs _ i h
theorem rdG_set (xs : List SgT) (i : Nat) (v : SgT) (h : i < xs.length) : rd_T45 (xs.set i v) (i : Int) = v := by
  rw [rdG_nat _ _ (by simp; omega)]; simp
theorem laws_eqSignS_l0 (a : List SgT) (hl : a.length < 4611686018427387904) : ∀ (d i : Nat), i + d = a.length → Ev (fun k => laws_eqSignS.l0 k a a (i : Int)) true
  | 0, i, h => by
    refine ev_s0 (fun k => ?_)
    simp only [laws_eqSignS.l0]
    rw [if_neg (by omega)]
  | d + 1, i, h => by
    refine ev_s1 (laws_eqSignS_l0 a hl d (i + 1) (by omega)) (fun k e => ?_)
    simp only [laws_eqSignS.l0, laws_eqSign.f]
    rw [if_pos (by omega), if_pos (by omega), if_pos (by omega), w_succ (by omega)]
    simpa using e
theorem laws_eqSignS_ev (a : List SgT) (hl : a.length < 4611686018427387904) : Ev (fun k => laws_eqSignS.f k a a) true := by
  refine ev_a1 (laws_eqSignS_l0 a hl a.length 0 (by omega)) (fun k e => ?_)
  simp only [laws_eqSignS.f, if_true]
  exact e
noncomputable def mkG (m n : Nat) : List SgT := (List.range n).map fun j => ⟨((m + 3 * j : Nat) : Int), mt ((m + 3 * j + 1 : Nat) : Int), ((m + 3 * j + 2 : Nat) : Int)⟩
theorem mkG_succ (m n : Nat) : mkG m (n + 1) = mkG m n ++ [⟨((m + 3 * n : Nat) : Int), mt ((m + 3 * n + 1 : Nat) : Int), ((m + 3 * n + 2 : Nat) : Int)⟩] := by simp [mkG, List.range_succ]
theorem mkG_length (m n : Nat) : (mkG m n).length = n := by simp [mkG]
theorem rdG_at (m i : Nat) (v : SgT) (r : List SgT) : rd_T45 (mkG m i ++ v :: r) (i : Int) = v := by
  have hl : i < (mkG m i ++ v :: r).length := by simp [mkG_length]
  rw [rdG_nat _ _ hl, List.getElem_append_right (by rw [mkG_length]; omega)]
  simp [mkG_length]
theorem laws_markSignS_l0 (m : Nat) : ∀ (rest : List SgT) (i : Nat), m + 3 * i + 3 * rest.length < 4611686018427387904 →
    Ev (fun k => laws_markSignS.l0 k (mkG m i ++ rest) ((m + 3 * i : Nat) : Int) (i : Int)) (((m + 3 * (i + rest.length) : Nat) : Int), mkG m (i + rest.length))
  | [], i, h => by
    refine ev_s0 (fun k => ?_)
    simp only [laws_markSignS.l0, List.append_nil, mkG_length]
    rw [if_neg (by omega)]; rfl
  | b :: rest, i, h => by
    simp only [List.length_cons] at h
    have ih := laws_markSignS_l0 m rest (i + 1) (by omega)
    refine ev_s2 ih (mt_ev ((m + 3 * i + 1 : Nat) : Int) (by omega) (by omega)) (fun k e e2 => ?_)
    have hl : i < (mkG m i ++ b :: rest).length := by simp [mkG_length]
    have w1 : wrap64 (((m + 3 * i : Nat) : Int) + 1) = ((m + 3 * i + 1 : Nat) : Int) := by unfold wrap64; omega
    have w2 : wrap64 (((m + 3 * i + 1 : Nat) : Int) + 1) = ((m + 3 * i + 2 : Nat) : Int) := by unfold wrap64; omega
    have w3 : wrap64 (((m + 3 * i + 2 : Nat) : Int) + 1) = ((m + 3 * (i + 1) : Nat) : Int) := by unfold wrap64; omega
    have w4 : wrap64 ((i : Int) + 1) = ((i + 1 : Nat) : Int) := by unfold wrap64; omega
    simp only [laws_markSignS.l0]
    rw [if_pos (by omega), if_pos (by omega), w1, e2, w2, w3, w4]
    simp only [Option.bind_some, Int.toNat_natCast, List.set_set, set_at _ _ _ _ i (mkG_length m i), rdG_at]
    have e3 : mkG m i ++ (⟨((m + 3 * i : Nat) : Int), mt ((m + 3 * i + 1 : Nat) : Int), ((m + 3 * i + 2 : Nat) : Int)⟩ : SgT) :: rest = mkG m (i + 1) ++ rest := by
      rw [mkG_succ, List.append_assoc]
      rfl
    rw [e3, e]
    simp only [List.length_cons]
    rw [show i + 1 + rest.length = i + (rest.length + 1) by omega]
theorem laws_markSignS_ev (xs : List SgT) (m : Nat) (h : m + 3 * xs.length < 4611686018427387904) :
    Ev (fun k => laws_markSignS.f k xs (m : Int)) (((m + 3 * xs.length : Nat) : Int), mkG m xs.length) := by
  have := laws_markSignS_l0 m xs 0 (by omega)
  simpa [mkG, laws_markSignS.f] using this
theorem laws_heldSignS_l0 (m n : Nat) (h : m + 3 * n < 4611686018427387904) : ∀ (d i : Nat), i + d = n →
    Ev (fun k => laws_heldSignS.l0 k (mkG m n) ((m + 3 * i : Nat) : Int) (i : Int)) ((m + 3 * n : Nat) : Int)
  | 0, i, hi => by
    refine ev_s0 (fun k => ?_)
    simp only [laws_heldSignS.l0, mkG_length]
    rw [if_neg (by omega), show m + 3 * i = m + 3 * n by omega]
  | d + 1, i, hi => by
    have ih := laws_heldSignS_l0 m n h d (i + 1) (by omega)
    refine ev_s2 ih (mt_ev ((m + 3 * i + 1 : Nat) : Int) (by omega) (by omega)) (fun k e e2 => ?_)
    simp only [laws_heldSignS.l0, mkG_length]
    have e3 : rd_T45 (mkG m n) (i : Int) = ⟨((m + 3 * i : Nat) : Int), mt ((m + 3 * i + 1 : Nat) : Int), ((m + 3 * i + 2 : Nat) : Int)⟩ := by
      rw [rdG_nat _ _ (by rw [mkG_length]; omega)]
      simp [mkG]
    have w1 : wrap64 (((m + 3 * i : Nat) : Int) + 1) = ((m + 3 * i + 1 : Nat) : Int) := by unfold wrap64; omega
    have w2 : wrap64 (((m + 3 * i + 1 : Nat) : Int) + 1) = ((m + 3 * i + 2 : Nat) : Int) := by unfold wrap64; omega
    have w3 : wrap64 (((m + 3 * i + 2 : Nat) : Int) + 1) = ((m + 3 * (i + 1) : Nat) : Int) := by unfold wrap64; omega
    have w4 : wrap64 ((i : Int) + 1) = ((i + 1 : Nat) : Int) := by unfold wrap64; omega
    rw [if_pos (by omega), if_pos (by omega), e3, w1, e2, w2, w3, w4]
    simp only [Option.bind_some, if_true]
    exact e
theorem laws_heldSignS_ev (m n : Nat) (h : m + 3 * n < 4611686018427387904) : Ev (fun k => laws_heldSignS.f k (mkG m n) (m : Int)) ((m + 3 * n : Nat) : Int) := by
  have := laws_heldSignS_l0 m n h n 0 (by omega)
  simpa [laws_heldSignS.f] using this

open Given
theorem pre_iff (s m : ByteArray) (i : Nat) (hi : i ≤ s.size) : Lib.hasPrefix (s.extract i s.size).data.toList m.data.toList = (decide (i + m.size ≤ s.size) && decide ((s.extract i (i + m.size)).toList = m.toList)) := by
  have hd : s.data.toList.length = s.size := rfl
  have hm : m.data.toList.length = m.size := rfl
  rw [← Lib.toList_data, Lib.extract_toList, Lib.extract_toList, Lib.toList_data, show i + m.size - i = m.size by omega]
  have e1 : (s.data.toList.drop i).take (s.size - i) = s.data.toList.drop i := List.take_of_length_le (by rw [List.length_drop]; omega)
  rw [e1, Lib.hasPrefix]
  apply Bool.eq_iff_iff.mpr
  rw [List.isPrefixOf_iff_prefix, List.prefix_iff_eq_take, Bool.and_eq_true, decide_eq_true_eq, decide_eq_true_eq, hm]
  constructor
  · intro h
    have hl := congrArg List.length h
    rw [List.length_take, List.length_drop, hm, hd] at hl
    exact ⟨by omega, h.symm⟩
  · intro h
    exact h.2.symm
def fMark (s : ByteArray) (i : Nat) : List ByteArray → ByteArray
  | [] => ⟨#[]⟩
  | m :: r => if (decide (i + m.size ≤ s.size) && decide ((s.extract i (i + m.size)).toList = m.toList)) = true then m else fMark s i r
theorem rdO_nat (l : List ByteArray) (j : Nat) (h : j < l.length) : rdOf ByteArray.empty l (j : Int) = l[j] := by simp [rdOf, List.getD, List.getElem?_eq_getElem h]
theorem spec_mark_l0 (s : ByteArray) (hs : s.size ≤ 3000) (i : Nat) (hi : i ≤ s.size) (l : List ByteArray) (hl : l.length ≤ 100) (hm : ∀ m ∈ l, m.size ≤ 10) : ∀ n j : Nat, l.length - j = n → j ≤ l.length → Ev (fun k => spec_l03Mark.l0 k s (i : Int) l (j : Int)) (fMark s i (l.drop j))
  | 0, j, hn, hj => ev_s0 fun k => by
    rw [spec_l03Mark.l0, if_neg (by omega), List.drop_eq_nil_of_le (by omega)]; rfl
  | n + 1, j, hn, hj => ev_s1 (spec_mark_l0 s hs i hi l hl hm n (j + 1) (by omega) (by omega)) fun k h => by
    have q3 : j < l.length := by omega
    have q4 := hm l[j] (List.getElem_mem q3)
    have e : wrap64 ((j : Int) + 1) = ((j + 1 : Nat) : Int) := by rw [b_w64 (by omega) (by omega)]; omega
    have e2 : wrap64 ((i : Int) + (l[j].size : Int)) = ((i + l[j].size : Nat) : Int) := by rw [b_w64 (by omega) (by omega)]; omega
    rw [spec_l03Mark.l0, if_pos (by omega), if_pos (by omega), rdO_nat l j q3, e, e2, List.drop_eq_getElem_cons q3, fMark, h]
    by_cases c : i + l[j].size ≤ s.size
    · rw [if_pos (by omega), if_pos (by omega), if_pos (by omega), decide_eq_true c, Int.toNat_natCast, Int.toNat_natCast]
      by_cases d : (s.extract i (i + l[j].size)).toList = l[j].toList
      · rw [if_pos d, decide_eq_true d]; rfl
      · rw [if_neg d, decide_eq_false d]; rfl
    · rw [if_neg (by omega), decide_eq_false c]; rfl
theorem impl_mark_l0 (s : ByteArray) (hs : s.size ≤ 3000) (i : Nat) (hi : i ≤ s.size) (l : List ByteArray) (hl : l.length ≤ 100) : ∀ n j : Nat, l.length - j = n → j ≤ l.length → Ev (fun k => impl_markAt.l0 k s (i : Int) l (l.length : Int) (j : Int)) (fMark s i (l.drop j))
  | 0, j, hn, hj => ev_s0 fun k => by
    rw [impl_markAt.l0, if_neg (by omega), List.drop_eq_nil_of_le (by omega)]; rfl
  | n + 1, j, hn, hj => ev_s1 (impl_mark_l0 s hs i hi l hl n (j + 1) (by omega) (by omega)) fun k h => by
    have q3 : j < l.length := by omega
    have e : wrap64 ((j : Int) + 1) = ((j + 1 : Nat) : Int) := by rw [b_w64 (by omega) (by omega)]; omega
    rw [impl_markAt.l0, if_pos (by omega), if_pos (by omega), if_pos (by omega), if_pos (by omega), if_pos (by omega), rdO_nat l j q3, e, Int.toNat_natCast, strings_HasPrefix.f, pre_iff s _ i hi, Option.bind_some, List.drop_eq_getElem_cons q3, fMark, h]
    cases (decide (i + l[j].size ≤ s.size) && decide ((s.extract i (i + l[j].size)).toList = l[j].toList)) <;> rfl
def theMarks : List ByteArray := [⟨#[45, 62]⟩, ⟨#[61, 61]⟩, ⟨#[40]⟩, ⟨#[41]⟩, ⟨#[123]⟩, ⟨#[125]⟩, ⟨#[59]⟩, ⟨#[58]⟩, ⟨#[44]⟩, ⟨#[38]⟩, ⟨#[42]⟩, ⟨#[61]⟩, ⟨#[43]⟩, ⟨#[60]⟩]
theorem theMarks_spec : spec_l03Marks.f = some theMarks := rfl
theorem theMarks_split : strings_Split.f (⟨#[45, 62, 32, 61, 61, 32, 40, 32, 41, 32, 123, 32, 125, 32, 59, 32, 58, 32, 44, 32, 38, 32, 42, 32, 61, 32, 43, 32, 60]⟩ : ByteArray) (⟨#[32]⟩ : ByteArray) = some theMarks := by kernel_rfl
theorem theMarks_size : ∀ m ∈ theMarks, 1 ≤ m.size ∧ m.size ≤ 2 := by decide
theorem spec_mark_ev (s : ByteArray) (hs : s.size ≤ 3000) (i : Nat) (hi : i ≤ s.size) : Ev (fun k => spec_l03Mark.f k s (i : Int)) (fMark s i theMarks) :=
  ev_a1 (spec_mark_l0 s hs i hi theMarks (by decide) (fun m h => by have := theMarks_size m h; omega) 14 0 rfl (by decide)) fun k h => by
    rw [spec_l03Mark.f, theMarks_spec]; exact h
theorem impl_mark_ev (s : ByteArray) (hs : s.size ≤ 3000) (i : Nat) (hi : i ≤ s.size) : Ev (fun k => impl_markAt.f k s (i : Int)) (fMark s i theMarks) :=
  ev_a1 (impl_mark_l0 s hs i hi theMarks (by decide) 14 0 rfl (by decide)) fun k h => by
    rw [impl_markAt.f, theMarks_split]; exact h
theorem fMark_size (s : ByteArray) (i : Nat) : ∀ l : List ByteArray, (∀ m ∈ l, 1 ≤ m.size ∧ m.size ≤ 2) → fMark s i l = ⟨#[]⟩ ∨ (1 ≤ (fMark s i l).size ∧ (fMark s i l).size ≤ 2 ∧ i + (fMark s i l).size ≤ s.size)
  | [], _ => .inl rfl
  | m :: r, h => by
    rw [fMark]
    split
    · rename_i c
      rw [Bool.and_eq_true, decide_eq_true_eq] at c
      have := h m (by simp)
      exact .inr ⟨this.1, this.2, c.1⟩
    · exact fMark_size s i r (fun x hx => h x (by simp [hx]))
def wEnd (s : ByteArray) (lt : Bool) : Nat → Nat → Nat
  | 0, j => j
  | n + 1, j => if (isFi (bt s (j : Int)) || (lt && isLe (bt s (j : Int)))) = true then wEnd s lt n (j + 1) else j
theorem wEnd_bounds (s : ByteArray) (lt : Bool) : ∀ n j : Nat, j ≤ wEnd s lt n j ∧ wEnd s lt n j ≤ j + n
  | 0, j => by simp [wEnd]
  | n + 1, j => by
    rw [wEnd]
    have := wEnd_bounds s lt n (j + 1)
    split <;> omega
theorem wEnd_fig (s : ByteArray) : ∀ n j : Nat, (∀ t, j ≤ t → t < wEnd s false n j → isFi (bt s (t : Int)) = true) ∧ (wEnd s false n j < j + n → isFi (bt s ((wEnd s false n j : Nat) : Int)) = false)
  | 0, j => ⟨fun t h1 h2 => by simp [wEnd] at h2; omega, fun h => by simp [wEnd] at h⟩
  | n + 1, j => by
    have ih := wEnd_fig s n (j + 1)
    rw [wEnd]
    by_cases c : isFi (bt s (j : Int)) = true
    · simp only [c, Bool.true_or, if_true]
      refine ⟨fun t h1 h2 => ?_, fun h => ih.2 (by omega)⟩
      by_cases e : t = j
      · rw [e]; exact c
      · exact ih.1 t (by omega) h2
    · have c' : isFi (bt s (j : Int)) = false := by simpa using c
      simp only [c', Bool.false_and, Bool.or_self]
      exact ⟨fun t h1 h2 => by simp at h2; omega, fun _ => by simpa using c'⟩
theorem impl_wordEnd_l0 (s : ByteArray) (hs : s.size ≤ 3000) (lt : Bool) : ∀ n j : Nat, s.size - j = n → j ≤ s.size → Ev (fun k => impl_wordEnd.l0 k s (j : Int) lt) ((wEnd s lt n j : Nat) : Int)
  | 0, j, hn, hj => ev_s0 fun k => by rw [impl_wordEnd.l0, if_neg (by omega)]; rfl
  | n + 1, j, hn, hj => ev_s1 (impl_wordEnd_l0 s hs lt n (j + 1) (by omega) (by omega)) fun k h => by
    have e : wrap64 ((j : Int) + 1) = ((j + 1 : Nat) : Int) := by rw [b_w64 (by omega) (by omega)]; omega
    rw [impl_wordEnd.l0, if_pos (by omega), if_pos (by omega), impl_figure_is, impl_letter_is, e, Option.bind_some, Option.bind_some, h, wEnd]
    cases isFi (bt s (j : Int)) <;> cases lt <;> cases isLe (bt s (j : Int)) <;> rfl
theorem impl_wordEnd_ev (s : ByteArray) (hs : s.size ≤ 3000) (lt : Bool) (j : Nat) (hj : j ≤ s.size) : Ev (fun k => impl_wordEnd.f k s (j : Int) lt) ((wEnd s lt (s.size - j) j : Nat) : Int) :=
  ev_a1 (impl_wordEnd_l0 s hs lt (s.size - j) j rfl hj) fun k h => h

theorem bt_cut (s : ByteArray) (a b t : Nat) (hb : b ≤ s.size) (ht : a + t < b) : bt (s.extract a b) (t : Int) = bt s ((a + t : Nat) : Int) := by
  have hsz : (s.extract a b).size = b - a := by rw [ByteArray.size_extract]; omega
  have h1 : t < (s.extract a b).size := by omega
  have h2 : a + t < s.size := by omega
  unfold bt
  rw [dif_pos (by rw [Int.toNat_natCast]; exact h1), dif_pos (by rw [Int.toNat_natCast]; exact h2)]
  simp only [Int.toNat_natCast]
  rw [ByteArray.getElem_extract]
def numV (s : ByteArray) (i : Nat) : Nat → Int
  | 0 => 0
  | d + 1 => 10 * numV s i d + (bt s ((i + d : Nat) : Int) - 48)
theorem fig_range {x : Int} (h : isFi x = true) : 48 ≤ x ∧ x ≤ 57 := by unfold isFi at h; simpa using h
theorem numV_bound (s : ByteArray) (i L : Nat) (hf : ∀ t, i ≤ t → t < i + L → isFi (bt s (t : Int)) = true) : ∀ d, d ≤ L → 0 ≤ numV s i d ∧ numV s i d < 10 ^ d
  | 0, _ => by simp [numV]
  | d + 1, h => by
    have ih := numV_bound s i L hf d (by omega)
    have r := fig_range (hf (i + d) (by omega) (by omega))
    have p : (10 : Int) ^ (d + 1) = 10 * 10 ^ d := by rw [Int.pow_succ]; omega
    rw [numV, p]
    generalize (10 : Int) ^ d = z at ih ⊢
    omega
theorem numV_small (s : ByteArray) (i L : Nat) (hf : ∀ t, i ≤ t → t < i + L → isFi (bt s (t : Int)) = true) (d : Nat) (h : d ≤ L) (h11 : d ≤ 11) : 0 ≤ numV s i d ∧ numV s i d < 100000000000 := by
  have b := numV_bound s i L hf d h
  have p : (10 : Nat) ^ d ≤ 10 ^ 11 := Nat.pow_le_pow_right (by omega) h11
  have p2 : ((10 ^ d : Nat) : Int) ≤ ((10 ^ 11 : Nat) : Int) := by exact_mod_cast p
  have e : ((10 ^ d : Nat) : Int) = (10 : Int) ^ d := by push_cast; rfl
  have e2 : ((10 ^ 11 : Nat) : Int) = 100000000000 := by decide
  omega
theorem num_step (v x : Int) (hv : 0 ≤ v ∧ v < 100000000000) (hx : 48 ≤ x ∧ x ≤ 57) : wrap64 (wrap64 (10 * v) + (x - 48) % 256) = 10 * v + (x - 48) := by
  have q1 : -9223372036854775808 ≤ 10 * v ∧ 10 * v ≤ 9223372036854775807 := by omega
  have q2 : (x - 48) % 256 = x - 48 := by omega
  have q3 : -9223372036854775808 ≤ 10 * v + (x - 48) ∧ 10 * v + (x - 48) ≤ 9223372036854775807 := by omega
  rw [b_w64 q1.1 q1.2, q2, b_w64 q3.1 q3.2]
theorem num_step2 (v x : Int) (hv : 0 ≤ v ∧ v < 100000000000) (hx : 48 ≤ x ∧ x ≤ 57) : wrap64 (wrap64 (wrap64 (10 * v) + wrap64 x) - 48) = 10 * v + (x - 48) := by
  have q1 : -9223372036854775808 ≤ 10 * v ∧ 10 * v ≤ 9223372036854775807 := by omega
  have q2 : -9223372036854775808 ≤ x ∧ x ≤ 9223372036854775807 := by omega
  have q3 : -9223372036854775808 ≤ 10 * v + x ∧ 10 * v + x ≤ 9223372036854775807 := by omega
  have q4 : -9223372036854775808 ≤ 10 * v + x - 48 ∧ 10 * v + x - 48 ≤ 9223372036854775807 := by omega
  rw [b_w64 q1.1 q1.2, b_w64 q2.1 q2.2, b_w64 q3.1 q3.2, b_w64 q4.1 q4.2]
  omega
theorem impl_number_l0 (s : ByteArray) (i L : Nat) (hs : s.size ≤ 3000) (hL : i + L ≤ s.size) (hf : ∀ t, i ≤ t → t < i + L → isFi (bt s (t : Int)) = true) (h1 : 1 ≤ L) : ∀ n d : Nat, min L 10 - d = n → d ≤ min L 10 →
    Ev (fun k => impl_numberOf.l0 k (s.extract i (i + L)) (numV s i d) (d : Int)) (numV s i (min L 10), decide (L ≤ 10) && decide (numV s i (min L 10) ≤ 1000000000))
  | 0, d, hn, hd => ev_s0 fun k => by
    have hsz : (s.extract i (i + L)).size = L := by rw [ByteArray.size_extract]; omega
    have e : d = min L 10 := by omega
    rw [impl_numberOf.l0, hsz, impl_in_is, e, Option.bind_some]
    by_cases c : L ≤ 10
    · have q : (1 : Int) ≤ (L : Int) ∧ (L : Int) ≤ 10 := by omega
      rw [if_neg (by omega), decide_eq_true q, decide_eq_true c, if_pos rfl, Bool.true_and]
    · have q : ¬ ((1 : Int) ≤ (L : Int) ∧ (L : Int) ≤ 10) := by omega
      rw [if_pos (by omega), if_neg (by omega), decide_eq_false q, decide_eq_false c, if_neg (by decide), Bool.false_and]
  | n + 1, d, hn, hd => ev_s1 (impl_number_l0 s i L hs hL hf h1 n (d + 1) (by omega) (by omega)) fun k h => by
    have hsz : (s.extract i (i + L)).size = L := by rw [ByteArray.size_extract]; omega
    have p1 : (d : Int) < (L : Int) := by omega
    have p2 : (d : Int) < 10 := by omega
    have p3 : (0 : Int) ≤ (d : Int) := by omega
    have p4 : i + d < i + L := by omega
    have e : wrap64 ((d : Int) + 1) = ((d + 1 : Nat) : Int) := by rw [b_w64 (by omega) (by omega)]; omega
    have p5 : d ≤ L := by omega
    have p6 : d ≤ 11 := by omega
    have p7 : i ≤ i + d := by omega
    have b := numV_small s i L hf d p5 p6
    have r := fig_range (hf (i + d) p7 p4)
    rw [impl_numberOf.l0, hsz, if_pos p1, if_pos p2, if_pos p3, bt_cut s i (i + L) d hL p4, e, num_step _ _ b r]
    rw [numV] at h
    exact h
theorem impl_number_ev (s : ByteArray) (i L : Nat) (hs : s.size ≤ 3000) (hL : i + L ≤ s.size) (hf : ∀ t, i ≤ t → t < i + L → isFi (bt s (t : Int)) = true) (h1 : 1 ≤ L) :
    Ev (fun k => impl_numberOf.f k (s.extract i (i + L))) (numV s i (min L 10), decide (L ≤ 10) && decide (numV s i (min L 10) ≤ 1000000000)) :=
  ev_a1 (impl_number_l0 s i L hs hL hf h1 (min L 10) 0 (by omega) (by omega)) fun k h => h
/-- the loop over a name's letters and figures, up to its end -/
theorem spec_l1_ev (s : ByteArray) (hs : s.size ≤ 3000) (i : Nat) (out : List SgT) (R : List SgT × Bool) : ∀ n j : Nat, s.size - j = n → i ≤ j → j ≤ s.size →
    (∀ e : Nat, e = wEnd s true n j → Ev (fun k => if wrap64 ((e : Int) - (i : Int)) > 8 then some (([] : List SgT), false) else if 0 ≤ (i : Int) then if (i : Int) ≤ (e : Int) then if (e : Int) ≤ (s.size : Int) then if out.length < 4398046511104 then spec_SignsOf.l0 k s [] (out ++ [(⟨1, s.extract (i : Int).toNat (e : Int).toNat, 0⟩ : SgT)]) (e : Int) else none else none else none else none) R) →
    Ev (fun k => spec_SignsOf.l1 k s [] out (i : Int) (j : Int)) R
  | 0, j, hn, hi, hj, H => ev_s1 (H j rfl) fun k h => by
    rw [spec_SignsOf.l1, if_neg (by omega)]
    exact h
  | n + 1, j, hn, hi, hj, H => by
    have q1 : (j : Int) < (s.size : Int) := by omega
    have q2 : (0 : Int) ≤ (j : Int) := by omega
    have e : wrap64 ((j : Int) + 1) = ((j + 1 : Nat) : Int) := by rw [b_w64 (by omega) (by omega)]; omega
    by_cases c : (isFi (bt s (j : Int)) || (true && isLe (bt s (j : Int)))) = true
    · have ih := spec_l1_ev s hs i out R n (j + 1) (by omega) (by omega) (by omega) (fun e he => H e (by rw [he, wEnd, if_pos c]))
      refine ev_s1 ih fun k h => ?_
      rw [spec_SignsOf.l1, if_pos q1, if_pos q2, spec_letter_is, spec_figure_is, e, Option.bind_some, Option.bind_some, h]
      cases d : isLe (bt s (j : Int))
      · have f : isFi (bt s (j : Int)) = true := by simpa [d] using c
        rw [f]; rfl
      · rfl
    · refine ev_s1 (H j (by rw [wEnd, if_neg c])) fun k h => ?_
      have c' : isFi (bt s (j : Int)) = false ∧ isLe (bt s (j : Int)) = false := by simpa using c
      rw [spec_SignsOf.l1, if_pos q1, if_pos q2, spec_letter_is, spec_figure_is, Option.bind_some, Option.bind_some, c'.1, c'.2]
      exact h
/-- the loop over a number's figures: at most eleven -/
theorem spec_l2_ev (s : ByteArray) (hs : s.size ≤ 3000) (i L : Nat) (hL : i + L ≤ s.size) (hf : ∀ t, i ≤ t → t < i + L → isFi (bt s (t : Int)) = true) (hend : i + L < s.size → isFi (bt s ((i + L : Nat) : Int)) = false) (out : List SgT) (R : List SgT × Bool)
    (H : Ev (fun k => spec_SignsOf.j4 k s [] out (i : Int) ((i + min L 11 : Nat) : Int) (numV s i (min L 11))) R) : ∀ n d : Nat, min L 11 - d = n → d ≤ min L 11 →
    Ev (fun k => spec_SignsOf.l2 k s [] out (i : Int) ((i + d : Nat) : Int) (numV s i d)) R
  | 0, d, hn, hd => ev_s1 H fun k h => by
    have e : d = min L 11 := by omega
    have e2 : wrap64 (((i + min L 11 : Nat) : Int) - (i : Int)) = ((min L 11 : Nat) : Int) := by rw [b_w64 (by omega) (by omega)]; omega
    rw [e, spec_SignsOf.l2, spec_figure_is, Option.bind_some, e2]
    by_cases q : i + min L 11 < s.size
    · rw [if_pos (by omega), if_pos (by omega)]
      by_cases c : L ≤ 10
      · have e3 : min L 11 = L := by omega
        rw [e3] at h ⊢
        rw [hend (by omega)]
        exact h
      · rw [if_neg (by omega : ¬ ((min L 11 : Nat) : Int) ≤ 10)]
        cases isFi (bt s ((i + min L 11 : Nat) : Int)) <;> exact h
    · rw [if_neg (by omega)]; exact h
  | n + 1, d, hn, hd => ev_s1 (spec_l2_ev s hs i L hL hf hend out R H n (d + 1) (by omega) (by omega)) fun k h => by
    have e : wrap64 (((i + d : Nat) : Int) + 1) = ((i + (d + 1) : Nat) : Int) := by rw [b_w64 (by omega) (by omega)]; omega
    have e2 : wrap64 (((i + d : Nat) : Int) - (i : Int)) = (d : Int) := by rw [b_w64 (by omega) (by omega)]; omega
    have p1 : ((i + d : Nat) : Int) < (s.size : Int) := by omega
    have p2 : (0 : Int) ≤ ((i + d : Nat) : Int) := by omega
    have p3 : (d : Int) ≤ 10 := by omega
    have p4 := hf (i + d) (by omega) (by omega)
    have b := numV_small s i L hf d (by omega) (by omega)
    have r := fig_range p4
    rw [spec_SignsOf.l2, if_pos p1, if_pos p2, spec_figure_is, Option.bind_some, p4, if_pos rfl, e2, if_pos p3, e, num_step2 _ _ b r]
    rw [numV] at h
    exact h

theorem signs_both (s : ByteArray) (hs : s.size ≤ 3000) : ∀ m i : Nat, ∀ out : List SgT, s.size - i ≤ m → i ≤ s.size → out.length ≤ i →
    ∃ R : List SgT × Bool, R.1.length ≤ 3000 ∧ Ev (fun k => spec_SignsOf.l0 k s [] out (i : Int)) R ∧ Ev (fun k => impl_SignsOf.l0 k s out (i : Int)) R := by
  intro m
  induction m with
  | zero =>
    intro i out hm hi ho
    refine ⟨(out, true), by simp; omega, ev_s0 fun k => ?_, ev_s0 fun k => ?_⟩
    · rw [spec_SignsOf.l0, if_neg (by omega)]
    · rw [impl_SignsOf.l0, if_neg (by omega)]
  | succ m IH =>
    intro i out hm hi ho
    by_cases hlt : i < s.size
    case neg =>
      refine ⟨(out, true), by simp; omega, ev_s0 fun k => ?_, ev_s0 fun k => ?_⟩
      · rw [spec_SignsOf.l0, if_neg (by omega)]
      · rw [impl_SignsOf.l0, if_neg (by omega)]
    have q1 : (i : Int) < (s.size : Int) := by omega
    have q2 : (0 : Int) ≤ (i : Int) := by omega
    have w1 : wrap64 ((i : Int) + 1) = ((i + 1 : Nat) : Int) := by rw [b_w64 (by omega) (by omega)]; omega
    have ol : out.length < 4398046511104 := by omega
    -- the round's head: blank or not
    have headS : ∀ (b : Bool) (R : List SgT × Bool), b = (decide (bt s (i : Int) = 32) || (bt s (i : Int) == 10)) → Ev (fun k => spec_SignsOf.j1 k s [] out (i : Int) b) R → Ev (fun k => spec_SignsOf.l0 k s [] out (i : Int)) R := by
      intro b R hb H
      refine ev_s1 H fun k h => ?_
      rw [spec_SignsOf.l0, if_pos q1, if_pos q2]
      by_cases c : bt s (i : Int) = 32
      · rw [if_pos c]; rw [hb, decide_eq_true c, Bool.true_or] at h; exact h
      · rw [if_neg c]; rw [hb, decide_eq_false c, Bool.false_or] at h; exact h
    have headI : ∀ (b : Bool) (R : List SgT × Bool), b = (decide (bt s (i : Int) = 32) || (bt s (i : Int) == 10)) → Ev (fun k => impl_SignsOf.j1 k s out (i : Int) (bt s (i : Int)) b) R → Ev (fun k => impl_SignsOf.l0 k s out (i : Int)) R := by
      intro b R hb H
      refine ev_s1 H fun k h => ?_
      rw [impl_SignsOf.l0, if_pos q1, if_pos q2]
      by_cases c : bt s (i : Int) = 32
      · rw [if_pos c]; rw [hb, decide_eq_true c, Bool.true_or] at h; exact h
      · rw [if_neg c]; rw [hb, decide_eq_false c, Bool.false_or] at h; exact h
    cases hb : (decide (bt s (i : Int) = 32) || (bt s (i : Int) == 10))
    case true =>
      obtain ⟨R, hR, h1, h2⟩ := IH (i + 1) out (by omega) (by omega) (by omega)
      refine ⟨R, hR, headS true R hb.symm (ev_s1 h1 fun k h => ?_), headI true R hb.symm (ev_s1 h2 fun k h => ?_)⟩
      · rw [spec_SignsOf.j1, if_pos rfl, w1]; exact h
      · rw [impl_SignsOf.j1, if_pos rfl, w1]; exact h
    case false =>
      cases hle : isLe (bt s (i : Int))
      case true =>
        -- a name
        obtain ⟨e, he⟩ : ∃ e, e = wEnd s true (s.size - i) i := ⟨_, rfl⟩
        have eb := wEnd_bounds s true (s.size - i) i
        have e1 : i + 1 ≤ e := by
          obtain ⟨n, hn⟩ : ∃ n, s.size - i = n + 1 := ⟨s.size - i - 1, by omega⟩
          have b2 := wEnd_bounds s true n (i + 1)
          rw [he, hn, wEnd, if_pos (by rw [hle]; simp)]
          exact b2.1
        rw [← he] at eb
        have e2 : e ≤ s.size := by omega
        have w2 : wrap64 ((e : Int) - (i : Int)) = (e : Int) - (i : Int) := b_w64 (by omega) (by omega)
        have wE := impl_wordEnd_ev s hs true i hi
        rw [← he] at wE
        by_cases c8 : (e : Int) - (i : Int) > 8
        · refine ⟨([], false), by simp, headS false _ hb.symm ?_, headI false _ hb.symm ?_⟩
          · have H := spec_l1_ev s hs i out ([], false) (s.size - i) i rfl (by omega) hi (fun e' he' => ev_a0 fun k => by
              rw [← he] at he'
              subst he'
              rw [w2, if_pos c8])
            refine ev_s1 H fun k h => ?_
            rw [spec_SignsOf.j1, if_neg (by decide), if_pos q2, if_pos q1, spec_letter_is, hle, Option.bind_some, if_pos rfl]
            exact h
          · refine ev_s1 wE fun k h => ?_
            rw [impl_SignsOf.j1, if_neg (by decide), impl_letter_is, hle, Option.bind_some, if_pos rfl, h, Option.bind_some, w2, if_pos c8]
        · have p1 : (i : Int) ≤ (e : Int) := by omega
          have p2 : (e : Int) ≤ (s.size : Int) := by omega
          obtain ⟨R, hR, h1, h2⟩ := IH e (out ++ [(⟨1, s.extract (i : Int).toNat (e : Int).toNat, 0⟩ : SgT)]) (by omega) e2 (by simp; omega)
          refine ⟨R, hR, headS false _ hb.symm ?_, headI false _ hb.symm ?_⟩
          · have H := spec_l1_ev s hs i out R (s.size - i) i rfl (by omega) hi (fun e' he' => ev_a1 h1 fun k h => by
              rw [← he] at he'
              subst he'
              rw [w2, if_neg c8, if_pos q2, if_pos p1, if_pos p2, if_pos ol]
              exact h)
            refine ev_s1 H fun k h => ?_
            rw [spec_SignsOf.j1, if_neg (by decide), if_pos q2, if_pos q1, spec_letter_is, hle, Option.bind_some, if_pos rfl]
            exact h
          · refine ev_s2 wE h2 fun k h h' => ?_
            rw [impl_SignsOf.j1, if_neg (by decide), impl_letter_is, hle, Option.bind_some, if_pos rfl, h, Option.bind_some, w2, if_neg c8, if_pos q2, if_pos p1, if_pos p2, if_pos ol]
            exact h'
      case false =>
        cases hfi : isFi (bt s (i : Int))
        case true =>
          -- a number
          obtain ⟨e, he⟩ : ∃ e, e = wEnd s false (s.size - i) i := ⟨_, rfl⟩
          have eb := wEnd_bounds s false (s.size - i) i
          have ef := wEnd_fig s (s.size - i) i
          have e1 : i + 1 ≤ e := by
            obtain ⟨n, hn⟩ : ∃ n, s.size - i = n + 1 := ⟨s.size - i - 1, by omega⟩
            have b2 := wEnd_bounds s false n (i + 1)
            rw [he, hn, wEnd, if_pos (by rw [hfi]; simp)]
            exact b2.1
          rw [← he] at eb ef
          obtain ⟨L, hL⟩ : ∃ L, e = i + L := ⟨e - i, by omega⟩
          have wE := impl_wordEnd_ev s hs false i hi
          rw [← he] at wE
          subst hL
          have l1 : 1 ≤ L := by omega
          have l2 : i + L ≤ s.size := by omega
          have hend : i + L < s.size → isFi (bt s ((i + L : Nat) : Int)) = false := fun h => ef.2 (by omega)
          have p1 : (i : Int) ≤ ((i + L : Nat) : Int) := by omega
          have p2 : ((i + L : Nat) : Int) ≤ (s.size : Int) := by omega
          have hx : s.extract (i : Int).toNat ((i + L : Nat) : Int).toNat = s.extract i (i + L) := by rw [Int.toNat_natCast, Int.toNat_natCast]
          have hnum := impl_number_ev s i L hs l2 ef.1 l1
          have w3 : wrap64 (((i + min L 11 : Nat) : Int) - (i : Int)) = ((min L 11 : Nat) : Int) := by rw [b_w64 (by omega) (by omega)]; omega
          by_cases ok : L ≤ 10 ∧ numV s i (min L 10) ≤ 1000000000
          · have m1 : min L 11 = L := by omega
            have m2 : min L 10 = L := by omega
            have n1 : ¬ ((L : Nat) : Int) > 10 := by omega
            rw [m2] at ok hnum
            rw [m1] at w3
            have n2 : ¬ numV s i L > 1000000000 := by have := ok.2; omega
            obtain ⟨R, hR, h1, h2⟩ := IH (i + L) (out ++ [(⟨2, (⟨#[]⟩ : ByteArray), numV s i L⟩ : SgT)]) (by omega) l2 (by simp; omega)
            refine ⟨R, hR, headS false _ hb.symm ?_, headI false _ hb.symm ?_⟩
            · have H5 : Ev (fun k => spec_SignsOf.j5 k s [] out ((i + L : Nat) : Int) (numV s i L) false) R := ev_s1 h1 fun k h => by
                rw [spec_SignsOf.j5, if_neg (by decide), if_pos ol]; exact h
              have H4 : Ev (fun k => spec_SignsOf.j4 k s [] out (i : Int) ((i + min L 11 : Nat) : Int) (numV s i (min L 11))) R := by
                rw [m1]
                exact ev_s1 H5 fun k h => by
                  rw [spec_SignsOf.j4, w3, if_neg n1, decide_eq_false n2]; exact h
              have H := spec_l2_ev s hs i L l2 ef.1 hend out R H4 (min L 11) 0 (by omega) (by omega)
              refine ev_s1 H fun k h => ?_
              rw [spec_SignsOf.j1, if_neg (by decide), if_pos q2, if_pos q1, spec_letter_is, spec_figure_is, hle, hfi, Option.bind_some, if_neg (by decide), Option.bind_some, if_pos rfl]
              exact h
            · refine ev_s3 wE hnum h2 fun k h h' h'' => ?_
              rw [impl_SignsOf.j1, if_neg (by decide), impl_letter_is, impl_figure_is, hle, hfi, Option.bind_some, if_neg (by decide), Option.bind_some, if_pos rfl, h, Option.bind_some, if_pos q2, if_pos p1, if_pos p2, hx, h', Option.bind_some, decide_eq_true ok.1, decide_eq_true ok.2, if_pos (show (numV s i L, true && true).snd = true from rfl), if_pos ol]
              exact h''
          · refine ⟨([], false), by simp, headS false _ hb.symm ?_, headI false _ hb.symm ?_⟩
            · have H5 : Ev (fun k => spec_SignsOf.j5 k s [] out ((i + min L 11 : Nat) : Int) (numV s i (min L 11)) true) ([], false) := ev_s0 fun k => by
                rw [spec_SignsOf.j5, if_pos rfl]
              have H4 : Ev (fun k => spec_SignsOf.j4 k s [] out (i : Int) ((i + min L 11 : Nat) : Int) (numV s i (min L 11))) ([], false) := ev_s1 H5 fun k h => by
                rw [spec_SignsOf.j4, w3]
                by_cases c : ((min L 11 : Nat) : Int) > 10
                · rw [if_pos c]; exact h
                · have m1 : min L 11 = L := by omega
                  have m2 : min L 10 = L := by omega
                  have l10 : L ≤ 10 := by omega
                  rw [m2] at ok
                  have n2 : numV s i L > 1000000000 := by
                    apply Int.not_le.mp
                    exact fun h => ok ⟨l10, h⟩
                  rw [if_neg c]
                  rw [m1] at h ⊢
                  rw [decide_eq_true n2]; exact h
              have H := spec_l2_ev s hs i L l2 ef.1 hend out ([], false) H4 (min L 11) 0 (by omega) (by omega)
              refine ev_s1 H fun k h => ?_
              rw [spec_SignsOf.j1, if_neg (by decide), if_pos q2, if_pos q1, spec_letter_is, spec_figure_is, hle, hfi, Option.bind_some, if_neg (by decide), Option.bind_some, if_pos rfl]
              exact h
            · refine ev_s2 wE hnum fun k h h' => ?_
              have nb : (decide (L ≤ 10) && decide (numV s i (min L 10) ≤ 1000000000)) = false := by
                by_cases c : L ≤ 10
                · rw [decide_eq_true c, decide_eq_false (fun h => ok ⟨c, h⟩)]; rfl
                · rw [decide_eq_false c]; rfl
              rw [impl_SignsOf.j1, if_neg (by decide), impl_letter_is, impl_figure_is, hle, hfi, Option.bind_some, if_neg (by decide), Option.bind_some, if_pos rfl, h, Option.bind_some, if_pos q2, if_pos p1, if_pos p2, hx, h', Option.bind_some, nb, if_neg (show ¬ (numV s i (min L 10), false).snd = true from Bool.false_ne_true)]
        case false =>
          -- a mark
          have hS := spec_mark_ev s hs i hi
          have hI := impl_mark_ev s hs i hi
          rcases fMark_size s i theMarks theMarks_size with hz | ⟨z1, z2, z3⟩
          · rw [hz] at hS hI
            have em : (⟨#[]⟩ : ByteArray).toList = ([] : List UInt8) := by rw [Lib.toList_data]
            refine ⟨([], false), by simp, headS false _ hb.symm (ev_s1 hS fun k h => ?_), headI false _ hb.symm (ev_s1 hI fun k h => ?_)⟩
            · rw [spec_SignsOf.j1, if_neg (by decide), if_pos q2, if_pos q1, spec_letter_is, spec_figure_is, hle, hfi, Option.bind_some, if_neg (by decide), Option.bind_some, if_neg (by decide), h, Option.bind_some, if_pos em]
            · rw [impl_SignsOf.j1, if_neg (by decide), impl_letter_is, impl_figure_is, hle, hfi, Option.bind_some, if_neg (by decide), Option.bind_some, if_neg (by decide), h, Option.bind_some, if_pos em]
          · generalize fMark s i theMarks = mk at hS hI z1 z2 z3
            have em : ¬ mk.toList = ([] : List UInt8) := by
              intro h
              have := congrArg List.length h
              rw [Lib.toList_data] at this
              have e : mk.data.toList.length = mk.size := rfl
              rw [e] at this
              have e0 : ([] : List UInt8).length = 0 := rfl
              rw [e0] at this
              clear w1
              omega
            have w4 : wrap64 ((i : Int) + (mk.size : Int)) = ((i + mk.size : Nat) : Int) := by rw [b_w64 (by omega) (by omega)]; omega
            obtain ⟨R, hR, h1, h2⟩ := IH (i + mk.size) (out ++ [(⟨3, mk, 0⟩ : SgT)]) (by omega) z3 (by simp; omega)
            refine ⟨R, hR, headS false _ hb.symm (ev_s2 hS h1 fun k h h' => ?_), headI false _ hb.symm (ev_s2 hI h2 fun k h h' => ?_)⟩
            · rw [spec_SignsOf.j1, if_neg (by decide), if_pos q2, if_pos q1, spec_letter_is, spec_figure_is, hle, hfi, Option.bind_some, if_neg (by decide), Option.bind_some, if_neg (by decide), h, Option.bind_some, if_neg em, if_pos ol, w4]
              exact h'
            · rw [impl_SignsOf.j1, if_neg (by decide), impl_letter_is, impl_figure_is, hle, hfi, Option.bind_some, if_neg (by decide), Option.bind_some, if_neg (by decide), h, Option.bind_some, if_neg em, if_pos ol, w4]
              exact h'
theorem signs_ev (s : ByteArray) : ∃ R : List SgT × Bool, R.1.length ≤ 3000 ∧ Ev (fun k => spec_SignsOf.f k s) R ∧ Ev (fun k => impl_SignsOf.f k s) R := by
  by_cases c : (s.size : Int) > 3000
  · refine ⟨([], false), by simp, ev_a0 fun k => ?_, ev_a0 fun k => ?_⟩
    · rw [spec_SignsOf.f, Option.bind_some, if_pos c]
    · rw [impl_SignsOf.f, if_pos c]
  · obtain ⟨R, hR, h1, h2⟩ := signs_both s (by omega) s.size 0 [] (by omega) (by omega) (by simp)
    refine ⟨R, hR, ev_a1 h1 fun k h => ?_, ev_a1 h2 fun k h => ?_⟩
    · rw [spec_SignsOf.f, Option.bind_some, if_neg c]; exact h
    · rw [impl_SignsOf.f, if_neg c]; exact h

theorem FnExactSignsOf : laws_FnExactSignsOf.Pure := by
  intro a0 h0
  obtain ⟨⟨g, b⟩, hR, h1, h2⟩ := signs_ev a0
  have hg : g.length ≤ 3000 := hR
  obtain ⟨K1, e1⟩ := h1
  obtain ⟨K2, e2⟩ := h2
  obtain ⟨K3, e3⟩ := laws_eqSignS_ev g (by omega)
  obtain ⟨K4, e4⟩ := laws_markSignS_ev g 1 (by omega)
  obtain ⟨K5, e5⟩ := laws_heldSignS_ev 1 g.length (by omega)
  have e1' : ∀ k, K1 ≤ k → spec_SignsOf.f k a0 = some (g, b) := e1
  have e2' : ∀ k, K2 ≤ k → impl_SignsOf.f k a0 = some (g, b) := e2
  have e3' : ∀ k, K3 ≤ k → laws_eqSignS.f k g g = some true := e3
  have e4' : ∀ k, K4 ≤ k → laws_markSignS.f k g 1 = some (((1 + 3 * g.length : Nat) : Int), mkG 1 g.length) := e4
  have e5' : ∀ k, K5 ≤ k → laws_heldSignS.f k (mkG 1 g.length) 1 = some ((1 + 3 * g.length : Nat) : Int) := e5
  refine ⟨K1 + K2 + K3 + K4 + K5 + 8, ?_⟩
  have n1 : ¬ ((1 + 3 * g.length : Nat) : Int) < 0 := by omega
  rw [laws_FnExactSignsOf.f]
  by_cases c : (a0.size : Int) > 1048576
  · rw [if_pos c]
  · rw [if_neg c, e1' _ (by omega), e2' _ (by omega)]
    simp only [Option.bind_some]
    rw [e3' _ (by omega)]
    simp only [Option.bind_some, if_true, bne_self_eq_false]
    rw [laws_FnExactSignsOf.j0, if_neg (by decide), e4' _ (by omega)]
    simp only [Option.bind_some]
    rw [e5' _ (by omega)]
    simp only [Option.bind_some, if_true]
    rw [if_neg n1, e2' _ (by omega)]
    simp only [Option.bind_some]
    rw [e3' _ (by omega)]
    simp only [Option.bind_some, if_true, bne_self_eq_false]
    rw [laws_FnExactSignsOf.j1, if_neg (by decide), e5' _ (by omega)]
    simp only [Option.bind_some]
    rw [if_neg n1]
    simp
end Go.Proofs.YtodicbbeaidibaaDoor.Pure
