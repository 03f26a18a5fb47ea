/- The program's SignText returns what the reference's returns, for every list of signs. No condition beside what the statement itself asks. -/
import Derived.Test.YtodicbbeaidibaaDoorPFnExactSignTextx2
import Derived.Test.YtodicbbeaidibaaDoorRdFnExactSignText
import Derived.Lib.Join
import Derived.Lib.ItoaLen
import Derived.Lib.ItoaNum
set_option linter.unusedVariables false
set_option linter.unusedSimpArgs false
namespace Go.Proofs.YtodicbbeaidibaaDoor.Pure
open Go.RowKit Go.Proofs.YtodicbbeaidibaaDoor.PFnExactSignText Go.Proofs.YtodicbbeaidibaaDoor.RdFnExactSignText Go.Proofs.YtodicbbeaidibaaDoorW.PrintWords Go.Proofs.YtodicbbeaidibaaDoorW.PrintLast

theorem b_w64 {x : Int} (h0 : -9223372036854775808 ≤ x) (h1 : x ≤ 9223372036854775807) : wrap64 x = x := by unfold wrap64; omega
theorem b_i64 {x : Int} (h : (Lit.int .i64 x).wf = true) : -9223372036854775808 ≤ x ∧ x ≤ 9223372036854775807 := by
  simp only [Lit.wf, Bool.and_eq_true, decide_eq_true_eq] at h
  have h1 : IntKind.i64.min = -9223372036854775808 := by decide
  have h2 : IntKind.i64.max = 9223372036854775807 := by decide
  omega
theorem b_u32 {x : Int} (h : (Lit.int .u32 x).wf = true) : 0 ≤ x ∧ x < 4294967296 := by
  simp only [Lit.wf, Bool.and_eq_true, decide_eq_true_eq] at h
  have h1 : IntKind.u32.min = 0 := by decide
  have h2 : IntKind.u32.max = 4294967295 := by decide
  omega
theorem b_tmod {x y : Int} (h : 0 ≤ x) : Int.tmod x y = x % y := Int.tmod_eq_emod_of_nonneg h
theorem b_tdiv {x y : Int} (h : 0 ≤ x) : Int.tdiv x y = x / y := Int.tdiv_eq_ediv_of_nonneg h
theorem b_ev_eq {α : Type} {g : Nat → Option α} {r r' : α} (h : Ev g r) (e : r = r') : Ev g r' := e ▸ h
theorem b_two {α β : Type} {g : Nat → Option α} {f : Nat → Option β} {a : α} {b : β} (h : Ev g a) (h' : Ev f b) : ∃ k, g k = some a ∧ f k = some b := by
  obtain ⟨K, h⟩ := h
  obtain ⟨K', h'⟩ := h'
  exact ⟨max K K', h _ (by omega), h' _ (by omega)⟩
theorem b_list_take_succ {α : Type} (l : List α) (i : Nat) (h : i < l.length) : l.take (i + 1) = l.take i ++ [l[i]] := by
  rw [List.take_succ_eq_append_getElem h]
theorem ev_a0 {α : Type} {F : Nat → Option α} {r : α} (H : ∀ k, F k = some r) : Ev F r := ⟨0, fun k _ => H k⟩
theorem ev_s0 {α : Type} {F : Nat → Option α} {r : α} (H : ∀ k, F (k + 1) = some r) : Ev F r := by
  refine ⟨1, fun k hk => ?_⟩
  obtain ⟨m, rfl⟩ : ∃ m, k = m + 1 := ⟨k - 1, by omega⟩
  exact H m
theorem ev_a1 {α β : Type} {F : Nat → Option α} {r : α} {g : Nat → Option β} {a : β} (ha : Ev g a) (H : ∀ k, g k = some a → F k = some r) : Ev F r := by
  obtain ⟨K, ha⟩ := ha
  exact ⟨K, fun k hk => H k (ha k hk)⟩
theorem ev_s1 {α β : Type} {F : Nat → Option α} {r : α} {g : Nat → Option β} {a : β} (ha : Ev g a) (H : ∀ k, g k = some a → F (k + 1) = some r) : Ev F r := by
  obtain ⟨K, ha⟩ := ha
  refine ⟨K + 1, fun k hk => ?_⟩
  obtain ⟨m, rfl⟩ : ∃ m, k = m + 1 := ⟨k - 1, by omega⟩
  exact H m (ha m (by omega))
theorem ev_and {α β : Type} {g : Nat → Option α} {f : Nat → Option β} {a : α} {b : β} (ha : Ev g a) (hb : Ev f b) : ∃ K, ∀ k, K ≤ k → g k = some a ∧ f k = some b := by
  obtain ⟨K, ha⟩ := ha
  obtain ⟨K', hb⟩ := hb
  exact ⟨max K K', fun k hk => ⟨ha k (by omega), hb k (by omega)⟩⟩
theorem ev_a2 {α β γ : Type} {F : Nat → Option α} {r : α} {g : Nat → Option β} {a : β} {f : Nat → Option γ} {b : γ} (ha : Ev g a) (hb : Ev f b) (H : ∀ k, g k = some a → f k = some b → F k = some r) : Ev F r := by
  obtain ⟨K, h⟩ := ev_and ha hb
  exact ⟨K, fun k hk => H k (h k hk).1 (h k hk).2⟩
theorem ev_s2 {α β γ : Type} {F : Nat → Option α} {r : α} {g : Nat → Option β} {a : β} {f : Nat → Option γ} {b : γ} (ha : Ev g a) (hb : Ev f b) (H : ∀ k, g k = some a → f k = some b → F (k + 1) = some r) : Ev F r := by
  obtain ⟨K, h⟩ := ev_and ha hb
  refine ⟨K + 1, fun k hk => ?_⟩
  obtain ⟨m, rfl⟩ : ∃ m, k = m + 1 := ⟨k - 1, by omega⟩
  exact H m (h m (by omega)).1 (h m (by omega)).2
theorem ev_a3 {α β γ δ : Type} {F : Nat → Option α} {r : α} {g : Nat → Option β} {a : β} {f : Nat → Option γ} {b : γ} {e : Nat → Option δ} {c : δ} (ha : Ev g a) (hb : Ev f b) (hc : Ev e c) (H : ∀ k, g k = some a → f k = some b → e k = some c → F k = some r) : Ev F r := by
  obtain ⟨K, h⟩ := ev_and ha hb
  obtain ⟨K', h'⟩ := hc
  exact ⟨max K K', fun k hk => H k (h k (by omega)).1 (h k (by omega)).2 (h' k (by omega))⟩
theorem ev_s3 {α β γ δ : Type} {F : Nat → Option α} {r : α} {g : Nat → Option β} {a : β} {f : Nat → Option γ} {b : γ} {e : Nat → Option δ} {c : δ} (ha : Ev g a) (hb : Ev f b) (hc : Ev e c) (H : ∀ k, g k = some a → f k = some b → e k = some c → F (k + 1) = some r) : Ev F r := by
  obtain ⟨K, h⟩ := ev_and ha hb
  obtain ⟨K', h'⟩ := hc
  refine ⟨max K K' + 1, fun k hk => ?_⟩
  obtain ⟨m, rfl⟩ : ∃ m, k = m + 1 := ⟨k - 1, by omega⟩
  exact H m (h m (by omega)).1 (h m (by omega)).2 (h' m (by omega))
def evp {α β : Type} (x : Option α) (y : Option β) : Option (α × β) := x.bind fun a => y.bind fun b => some (a, b)
theorem ev_pair {α β : Type} {g : Nat → Option α} {f : Nat → Option β} {a : α} {b : β} (ha : Ev g a) (hb : Ev f b) : Ev (fun k => evp (g k) (f k)) (a, b) :=
  ev_a2 ha hb (fun k e e2 => by simp [evp, e, e2])
theorem ev_pair_l {α β : Type} {x : Option α} {y : Option β} {a : α} {b : β} (h : evp x y = some (a, b)) : x = some a := by
  unfold evp at h
  cases x with
  | none => simp at h
  | some x => cases y with
    | none => simp at h
    | some y => simp at h; simp [h.1]
theorem ev_pair_r {α β : Type} {x : Option α} {y : Option β} {a : α} {b : β} (h : evp x y = some (a, b)) : y = some b := by
  unfold evp at h
  cases x with
  | none => simp at h
  | some x => cases y with
    | none => simp at h
    | some y => simp at h; simp [h.2]

theorem set_at {α : Type} : ∀ (a : List α) (b : α) (r : List α) (v : α) (i : Nat), a.length = i → (a ++ b :: r).set i v = a ++ v :: r
  | [], b, r, v, i, h => by subst h; rfl
  | x :: a, b, r, v, i, h => by
    subst h
    simp only [List.cons_append, List.length_cons, List.set_cons_succ, set_at a b r v a.length rfl]
theorem copy_step {α β : Type} (f : α → β) (xs : List α) (z : β) (i : Nat) (h : i < xs.length) :
    ((xs.take i).map f ++ List.replicate (xs.length - i) z).set i (f xs[i]) = (xs.take (i + 1)).map f ++ List.replicate (xs.length - (i + 1)) z := by
  rw [show xs.length - i = (xs.length - (i + 1)) + 1 by omega, List.replicate_succ, set_at _ _ _ _ i (by simp; omega), List.take_succ_eq_append_getElem h, List.map_append, List.append_assoc]
  rfl
theorem rd_nat (xs : List Int) (i : Nat) (h : i < xs.length) : rd xs (i : Int) = xs[i] := by
  unfold rd
  rw [Int.toNat_natCast, List.getD_eq_getElem?_getD, List.getElem?_eq_getElem h]; rfl
theorem getD_nat {α : Type} (xs : List α) (z : α) (i : Nat) (h : i < xs.length) : xs.getD ((i : Int)).toNat z = xs[i] := by
  rw [Int.toNat_natCast, List.getD_eq_getElem?_getD, List.getElem?_eq_getElem h]; rfl
theorem w_succ {i : Nat} (h : i < 4611686018427387904) : wrap64 ((i : Int) + 1) = ((i + 1 : Nat) : Int) := by unfold wrap64; omega
theorem drop_eq {α : Type} (a b : List α) (i : Nat) (ha : i < a.length) (hb : i < b.length) : a.drop i = b.drop i ↔ a[i] = b[i] ∧ a.drop (i + 1) = b.drop (i + 1) := by
  rw [List.drop_eq_getElem_cons ha, List.drop_eq_getElem_cons hb, List.cons.injEq]

abbrev SgT := S45
theorem rdG_nat (xs : List SgT) (i : Nat) (h : i < xs.length) : rd_T45 xs (i : Int) = xs[i] := by
  unfold rd_T45
  exact getD_nat xs _ i h
theorem rdG_set (xs : List SgT) (i : Nat) (v : SgT) (h : i < xs.length) : rd_T45 (xs.set i v) (i : Int) = v := by
  rw [rdG_nat _ _ (by simp; omega)]; simp
theorem laws_eqSignS_l0 (a : List SgT) (hl : a.length < 4611686018427387904) : ∀ (d i : Nat), i + d = a.length → Ev (fun k => laws_eqSignS.l0 k a a (i : Int)) true
  | 0, i, h => by
    refine ev_s0 (fun k => ?_)
    simp only [laws_eqSignS.l0]
    rw [if_neg (by omega)]
  | d + 1, i, h => by
    refine ev_s1 (laws_eqSignS_l0 a hl d (i + 1) (by omega)) (fun k e => ?_)
    simp only [laws_eqSignS.l0, laws_eqSign.f]
    rw [if_pos (by omega), if_pos (by omega), if_pos (by omega), w_succ (by omega)]
    simpa using e
theorem laws_eqSignS_ev (a : List SgT) (hl : a.length < 4611686018427387904) : Ev (fun k => laws_eqSignS.f k a a) true := by
  refine ev_a1 (laws_eqSignS_l0 a hl a.length 0 (by omega)) (fun k e => ?_)
  simp only [laws_eqSignS.f, if_true]
  exact e

open Given
def decD (m : Nat) : List UInt8 := if m = 0 then [] else Lib.decDigits m
theorem decD_step (m : Nat) (h : m ≠ 0) : decD m = decD (m / 10) ++ [UInt8.ofNat (48 + m % 10)] := by
  unfold decD
  rw [if_neg h, Lib.decDigits]
  by_cases c : m < 10
  · have e : m / 10 = 0 := by omega
    have e2 : m % 10 = m := by omega
    rw [dif_pos c, e, e2]
    simp
  · have e : ¬ m / 10 = 0 := by omega
    rw [dif_neg c, if_neg e]
theorem one_char (d : Nat) (h : d < 10) : (strOfNums [((48 + d : Nat) : Int)]).data.toList = [UInt8.ofNat (48 + d)] := by
  have : d = 0 ∨ d = 1 ∨ d = 2 ∨ d = 3 ∨ d = 4 ∨ d = 5 ∨ d = 6 ∨ d = 7 ∨ d = 8 ∨ d = 9 := by omega
  rcases this with h | h | h | h | h | h | h | h | h | h <;> subst h <;> rfl
theorem spec_figc (d : Nat) (h : d < 10) : spec_l01Figure.f (d : Int) = some ((48 + d : Nat) : Int) := by
  have e : wrap64 (48 + (d : Int)) % 256 = ((48 + d : Nat) : Int) := by rw [b_w64 (by omega) (by omega)]; omega
  rw [spec_l01Figure.f, if_pos (by omega), e]
def sgnI (neg : Bool) (m : Nat) : Int := if neg = true then -(m : Int) else (m : Int)
theorem sgn_div (neg : Bool) (m : Nat) (h : m ≤ 9223372036854775808) : wrap64 (Int.tdiv (sgnI neg m) 10) = sgnI neg (m / 10) := by
  have e : Int.tdiv (m : Int) 10 = ((m / 10 : Nat) : Int) := by rw [b_tdiv (by omega)]; omega
  cases neg
  · show wrap64 (Int.tdiv (m : Int) 10) = ((m / 10 : Nat) : Int)
    rw [e]; exact b_w64 (by omega) (by omega)
  · show wrap64 (Int.tdiv (-(m : Int)) 10) = -((m / 10 : Nat) : Int)
    rw [Int.neg_tdiv, e]; exact b_w64 (by omega) (by omega)
theorem sgn_mod (neg : Bool) (m : Nat) : Int.tmod (sgnI neg m) 10 = sgnI neg (m % 10) := by
  have e : Int.tmod (m : Int) 10 = ((m % 10 : Nat) : Int) := by rw [b_tmod (by omega)]; omega
  cases neg
  · exact e
  · show Int.tmod (-(m : Int)) 10 = -((m % 10 : Nat) : Int)
    rw [Int.neg_tmod, e]
theorem dec_l0 (neg : Bool) : ∀ (d m : Nat) (s : ByteArray), m < 10 ^ d → m ≤ 9223372036854775808 → s.size + d ≤ 1000 →
    ∃ R : ByteArray, Ev (fun k => spec_Decimal.l0 k (sgnI neg m) neg s) R ∧ R.data.toList = (if neg = true then [45] else []) ++ (decD m ++ s.data.toList) := by
  have base : ∀ s : ByteArray, s.size ≤ 1000 → ∃ R : ByteArray, Ev (fun k => spec_Decimal.l0 k (sgnI neg 0) neg s) R ∧ R.data.toList = (if neg = true then [45] else []) ++ (decD 0 ++ s.data.toList) := by
    intro s hs
    have e0 : sgnI neg 0 = 0 := by cases neg <;> rfl
    rw [e0]
    cases neg
    · exact ⟨s, ev_s0 fun k => by rw [spec_Decimal.l0, if_pos rfl, if_neg (by decide)], by simp [decD]⟩
    · exact ⟨(⟨#[45]⟩ : ByteArray) ++ s, ev_s0 fun k => by rw [spec_Decimal.l0, if_pos rfl, if_pos rfl, if_pos (by omega)], by simp [decD, ByteArray.data_append]⟩
  intro d
  induction d with
  | zero =>
    intro m s h h1 hs
    have : m = 0 := by omega
    subst this
    exact base s (by omega)
  | succ d ih =>
    intro m s h h1 hs
    by_cases c : m = 0
    · subst c
      exact base s (by omega)
    · have hd : m / 10 < 10 ^ d := by rw [Nat.div_lt_iff_lt_mul (by decide), ← Nat.pow_succ]; exact h
      have hsz : (strOfNums [((48 + m % 10 : Nat) : Int)]).size = 1 := by rw [strOfNums_size]; rfl
      have hm10 : m % 10 < 10 := Nat.mod_lt _ (by decide)
      obtain ⟨R, E, hR⟩ := ih (m / 10) (strOfNums [((48 + m % 10 : Nat) : Int)] ++ s) hd (by omega) (by rw [ByteArray.size_append, hsz]; omega)
      refine ⟨R, ev_s1 E fun k e => ?_, ?_⟩
      · have n0 : ¬ sgnI neg m = 0 := by cases neg <;> simp [sgnI] <;> omega
        have hz : 1 + s.size ≤ 9223372036854775807 := by omega
        rw [spec_Decimal.l0, if_neg n0, sgn_mod, sgn_div neg m h1]
        by_cases q : sgnI neg (m % 10) < 0
        · have e1 : wrap64 (-(sgnI neg (m % 10))) = ((m % 10 : Nat) : Int) := by
            cases neg
            · exact absurd q (by simp [sgnI]; omega)
            · show wrap64 (- -((m % 10 : Nat) : Int)) = _
              rw [Int.neg_neg]; exact b_w64 (by omega) (by omega)
          rw [if_pos q, e1, spec_figc _ hm10, Option.bind_some, Option.bind_some, hsz, if_pos hz]
          exact e
        · have e1 : sgnI neg (m % 10) = ((m % 10 : Nat) : Int) := by
            cases neg
            · rfl
            · have : m % 10 = 0 := by simp [sgnI] at q; omega
              rw [this]; rfl
          rw [if_neg q, e1, spec_figc _ hm10, Option.bind_some, Option.bind_some, hsz, if_pos hz]
          exact e
      · rw [hR, ByteArray.data_append, Array.toList_append, one_char _ hm10, decD_step m c, List.append_assoc]
theorem spec_Decimal_ev (n : Int) (h : (Lit.int .i64 n).wf = true) : ∃ R : ByteArray, Ev (fun k => spec_Decimal.f k n) R ∧ R.data.toList = Lib.itoa n := by
  have hb := b_i64 h
  by_cases c : n = 0
  · subst c
    exact ⟨⟨#[48]⟩, ev_a0 fun k => by rw [spec_Decimal.f, if_pos rfl], by rw [Lib.itoa, if_neg (by decide), show (0 : Int).toNat = 0 from rfl, Lib.decDigits_one (by decide)]; rfl⟩
  · obtain ⟨R, E, hR⟩ := dec_l0 (decide (n < 0)) 20 n.natAbs ⟨#[]⟩ (by omega) (by omega) (by decide)
    have e : sgnI (decide (n < 0)) n.natAbs = n := by
      unfold sgnI
      by_cases q : n < 0
      · rw [if_pos (decide_eq_true q)]; omega
      · rw [if_neg (by simp [q])]; omega
    rw [e] at E
    refine ⟨R, ev_a1 E fun k e => by rw [spec_Decimal.f, if_neg c]; exact e, ?_⟩
    have n0 : ¬ n.natAbs = 0 := by omega
    rw [hR, Lib.itoa, decD, if_neg n0]
    by_cases q : n < 0
    · rw [if_pos (decide_eq_true q), if_pos q]; simp
    · rw [if_neg (by simp [q]), if_neg q, show n.toNat = n.natAbs by omega]; simp
theorem impl_Decimal_is (n : Int) (h : (Lit.int .i64 n).wf = true) : impl_Decimal.f n = some ⟨(Lib.itoa n).toArray⟩ := by
  rw [impl_Decimal.f, strconv_Itoa.f, if_pos (b_i64 h)]; rfl

theorem sz_sub (a : Int) (n : Nat) (h0 : 0 ≤ a) (h1 : a ≤ 1048576) (hn : n ≤ maxLen) : wrap64 (a - (n : Int)) = a - n := by
  unfold maxLen at hn
  exact b_w64 (by omega) (by omega)
theorem w_succ2 {i : Nat} (h : i < 9223372036854775807) : wrap64 ((i : Int) + 1) = ((i + 1 : Nat) : Int) := by unfold wrap64; omega
abbrev SgL := S44
def sgOf (x : SgL) : SgT := ⟨x.f0, x.f1, x.f2⟩
theorem rdGL_nat (xs : List SgL) (i : Nat) (h : i < xs.length) : rd_T44 xs (i : Int) = xs[i] := by
  unfold rd_T44
  exact getD_nat xs _ i h
theorem laws_szSign_or (x : SgL) (a : Int) (h0 : 0 ≤ a) (h1 : a ≤ 1048576) (w : x.f1.size ≤ maxLen) : ∃ r, laws_szSign.f x.f0 x.f1 x.f2 a = some r ∧ (r < 0 ∨ (0 ≤ r ∧ r ≤ a ∧ x.f1.size ≤ 1048576)) := by
  rw [laws_szSign.f, sz_sub a _ h0 h1 w]
  by_cases c : a - (x.f1.size : Int) < 0
  · rw [if_pos c]; exact ⟨_, rfl, .inl (by omega)⟩
  · rw [if_neg c]; exact ⟨_, rfl, .inr ⟨by omega, by omega, by omega⟩⟩
theorem laws_szSignS_l0 (l : List SgL) (hl : l.length ≤ maxLen) (hw : ∀ x ∈ l, x.f1.size ≤ maxLen) : ∀ (d i : Nat) (a : Int), i + d = l.length → 0 ≤ a → a ≤ 1048576 →
    ∃ r, Ev (fun k => laws_szSignS.l0 k l a (i : Int)) r ∧ (r < 0 ∨ (0 ≤ r ∧ r ≤ a ∧ ∀ x ∈ l.drop i, x.f1.size ≤ 1048576))
  | 0, i, a, h, h0, h1 => ⟨a, ev_s0 (fun k => by simp only [laws_szSignS.l0]; rw [if_neg (by omega)]), .inr ⟨h0, by omega, by rw [List.drop_eq_nil_of_le (by omega)]; simp⟩⟩
  | d + 1, i, a, h, h0, h1 => by
    have hi : i < l.length := by omega
    have hl' := hl
    unfold maxLen at hl'
    obtain ⟨r, e, hr⟩ := laws_szSign_or l[i] a h0 h1 (hw _ (List.getElem_mem hi))
    have q1 : (i : Int) < (l.length : Int) := by omega
    have q2 : (0 : Int) ≤ (i : Int) := by omega
    by_cases c : r < 0
    · exact ⟨-1, ev_s0 (fun k => by simp only [laws_szSignS.l0]; rw [if_pos q1, if_pos q2, rdGL_nat l i hi, e, Option.bind_some, if_pos c]), .inl (by omega)⟩
    · rcases hr with hr | hr
      · exact absurd hr c
      · obtain ⟨r2, E, h2⟩ := laws_szSignS_l0 l hl hw d (i + 1) r (by omega) hr.1 (by omega)
        refine ⟨r2, ev_s1 E (fun k e' => ?_), ?_⟩
        · simp only [laws_szSignS.l0]; rw [if_pos q1, if_pos q2, rdGL_nat l i hi, e, Option.bind_some, if_neg c, w_succ2 (by omega)]; exact e'
        · rcases h2 with h2 | h2
          · exact .inl h2
          · refine .inr ⟨h2.1, by omega, ?_⟩
            rw [List.drop_eq_getElem_cons hi]
            intro x hx
            rcases List.mem_cons.mp hx with hx | hx
            · rw [hx]; exact hr.2.2
            · exact h2.2.2 x hx
theorem laws_szSignS_or (l : List SgL) (a : Int) (h0 : 0 ≤ a) (h1 : a ≤ 1048576) (hl : l.length ≤ maxLen) (hw : ∀ x ∈ l, x.f1.size ≤ maxLen) :
    ∃ r, Ev (fun k => laws_szSignS.f k l a) r ∧ (r < 0 ∨ (0 ≤ r ∧ r ≤ a ∧ l.length ≤ 1048576 ∧ ∀ x ∈ l, x.f1.size ≤ 1048576)) := by
  have e := sz_sub a _ h0 h1 hl
  by_cases c : a - (l.length : Int) < 0
  · exact ⟨-1, ev_a0 (fun k => by simp only [laws_szSignS.f]; rw [e, if_pos c]), .inl (by omega)⟩
  · obtain ⟨r, E, h⟩ := laws_szSignS_l0 l hl hw l.length 0 (a - (l.length : Int)) (by omega) (by omega) (by omega)
    refine ⟨r, ev_a1 E (fun k e' => by simp only [laws_szSignS.f]; rw [e, if_neg c]; exact e'), ?_⟩
    rcases h with h | h
    · exact .inl h
    · exact .inr ⟨h.1, by omega, by omega, fun x hx => h.2.2 x (by simpa using hx)⟩
theorem laws_toSignS_l0 (l : List SgL) (hl : l.length ≤ 1048576) : ∀ (d i : Nat), i + d = l.length →
    Ev (fun k => laws_toSignS.l0 k l ((l.take i).map sgOf ++ List.replicate (l.length - i) z45) (i : Int)) (l.map sgOf)
  | 0, i, h => by
    refine ev_s0 (fun k => ?_)
    simp only [laws_toSignS.l0]
    rw [if_neg (by omega), show l.length - i = 0 by omega, show i = l.length by omega]; simp
  | d + 1, i, h => by
    have hi : i < l.length := by omega
    refine ev_s1 (laws_toSignS_l0 l hl d (i + 1) (by omega)) (fun k e => ?_)
    simp only [laws_toSignS.l0, laws_toSign.f, Option.bind_some]
    rw [if_pos (by omega), if_pos (by omega), if_pos (by simp; omega), Int.toNat_natCast, rdGL_nat l i hi, show (⟨l[i].f0, l[i].f1, l[i].f2⟩ : SgT) = sgOf l[i] from rfl, copy_step sgOf l z45 i hi, w_succ (by omega)]
    exact e
theorem laws_toSignS_ev (l : List SgL) (hl : l.length ≤ 1048576) : Ev (fun k => laws_toSignS.f k l) (l.map sgOf) := by
  refine ev_a1 (laws_toSignS_l0 l hl l.length 0 (by omega)) (fun k e => ?_)
  simp only [laws_toSignS.f]
  rw [if_pos (by omega), Int.toNat_natCast, if_pos (by omega)]
  simpa using e
def pieceB (x : SgT) : ByteArray := if x.f0 = 2 then ⟨(Lib.itoa (mx x.f2 0)).toArray⟩ else x.f1
def pieceL (x : SgT) : List UInt8 := (pieceB x).data.toList
def sgOk (x : SgT) : Prop := x.f1.size ≤ 1048576 ∧ (Lit.int .i64 x.f2).wf = true
theorem mx_wf (n : Int) (h : (Lit.int .i64 n).wf = true) : (Lit.int .i64 (mx n 0)).wf = true := by
  unfold mx
  split
  · decide
  · exact h
theorem pieceL_len (x : SgT) (h : sgOk x) : (pieceL x).length ≤ 1048576 := by
  unfold pieceL pieceB
  split
  · have b := b_i64 (mx_wf x.f2 h.2)
    have := Lib.itoa_length_le (mx x.f2 0) b.1 b.2
    show (Lib.itoa (mx x.f2 0)).toArray.toList.length ≤ 1048576
    rw [List.toList_toArray]
    omega
  · exact h.1
theorem lens_le : ∀ ps : List (List UInt8), (∀ p ∈ ps, p.length ≤ 1048576) → Lib.lens ps ≤ ps.length * 1048576
  | [], _ => by simp [Lib.lens]
  | p :: r, h => by
    have ih := lens_le r (fun q hq => h q (by simp [hq]))
    have hp := h p (by simp)
    have e : Lib.lens (p :: r) = p.length + Lib.lens r := by simp [Lib.lens]
    rw [e, List.length_cons]
    omega
theorem join_le (ps : List (List UInt8)) (h : ∀ p ∈ ps, p.length ≤ 1048576) : (Lib.join ps [32]).length ≤ ps.length * 1048577 := by
  cases ps with
  | nil => simp [Lib.join_nil]
  | cons p r =>
    have := lens_le (p :: r) h
    have e := Lib.join_length p r [32]
    have e1 : ([32] : List UInt8).length = 1 := rfl
    rw [e, e1]
    simp only [List.length_cons] at this ⊢
    omega
theorem join_zero (ps : List (List UInt8)) (h : 0 < ps.length) : Lib.join (ps.take 1) [32] = ps[0] := by
  cases ps with
  | nil => simp at h
  | cons p r => simp [Lib.join_one]
theorem join_succ (ps : List (List UInt8)) (i : Nat) (hi : i < ps.length) (h0 : 0 < i) : Lib.join (ps.take (i + 1)) [32] = Lib.join (ps.take i) [32] ++ [32] ++ ps[i] := by
  cases ps with
  | nil => simp at hi
  | cons p r =>
    obtain ⟨j, rfl⟩ : ∃ j, i = j + 1 := ⟨i - 1, by omega⟩
    have hj : j < r.length := by simpa using hi
    rw [List.take_succ_cons, List.take_succ_cons, Lib.join_cons, Lib.join_cons, Lib.joinTail_take_succ [32] r j r[j] (List.getElem?_eq_getElem hj)]
    simp
theorem spec_dec_of (n : Int) (h : (Lit.int .i64 n).wf = true) : ∃ R : ByteArray, Ev (fun k => spec_Decimal.f k n) R ∧ R.data.toList = Lib.itoa n := spec_Decimal_ev n h
theorem spec_txt_l0 (xs : List SgT) (hl : xs.length ≤ 1048576) (hp : ∀ x ∈ xs, sgOk x) : ∀ (d i : Nat) (s : ByteArray), i + d = xs.length → s.data.toList = Lib.join ((xs.map pieceL).take i) [32] →
    ∃ R : ByteArray, Ev (fun k => spec_SignText.l0 k xs s (i : Int)) R ∧ R.data.toList = Lib.join (xs.map pieceL) [32]
  | 0, i, s, h, hs => ⟨s, ev_s0 fun k => by rw [spec_SignText.l0, if_neg (by omega)], by rw [hs, List.take_of_length_le (by simp; omega)]⟩
  | d + 1, i, s, h, hs => by
    have hi : i < xs.length := by omega
    have him : i < (xs.map pieceL).length := by simpa using hi
    have ok := hp xs[i] (List.getElem_mem hi)
    have hss : s.size ≤ 1099512676352 := by
      have e : s.data.toList.length = s.size := rfl
      rw [← e, hs]
      have := join_le ((xs.map pieceL).take i) (fun p hp' => by
        obtain ⟨y, hy, rfl⟩ := List.mem_map.mp (List.mem_of_mem_take hp')
        exact pieceL_len y (hp y hy))
      rw [List.length_take] at this
      omega
    have hpl := pieceL_len xs[i] ok
    -- the blank ahead of what is not first
    obtain ⟨s1, hs1, hz, head⟩ : ∃ s1 : ByteArray, s1.data.toList ++ pieceL xs[i] = Lib.join ((xs.map pieceL).take (i + 1)) [32] ∧ s1.size ≤ 1099512676353 ∧
        ∀ R : ByteArray, Ev (fun k => spec_SignText.j1 k xs s1 (i : Int)) R → Ev (fun k => spec_SignText.l0 k xs s (i : Int)) R := by
      by_cases c : i = 0
      · subst c
        refine ⟨s, ?_, by omega, fun R H => ev_s1 H fun k e => ?_⟩
        · rw [hs, join_zero _ him]; simp [Lib.join_nil]
        · rw [spec_SignText.l0, if_pos (by omega), if_neg (by omega)]; exact e
      · refine ⟨s ++ (⟨#[32]⟩ : ByteArray), ?_, ?_, fun R H => ev_s1 H fun k e => ?_⟩
        · rw [ByteArray.data_append, Array.toList_append, hs, join_succ _ i him (by omega)]; simp
        · rw [ByteArray.size_append]; have : (⟨#[32]⟩ : ByteArray).size = 1 := rfl
          omega
        · rw [spec_SignText.l0, if_pos (by omega), if_pos (by omega), if_pos (by omega)]; exact e
    obtain ⟨p, E, hpd⟩ : ∃ p : ByteArray, p.data.toList = pieceL xs[i] ∧ (∀ R : ByteArray, Ev (fun k => spec_SignText.l0 k xs (s1 ++ p) ((i + 1 : Nat) : Int)) R → Ev (fun k => spec_SignText.j1 k xs s1 (i : Int)) R) := by
      have w := w_succ (i := i) (by omega)
      have q1 : (0 : Int) ≤ (i : Int) := by omega
      have q2 : (i : Int) < (xs.length : Int) := by omega
      by_cases c : xs[i].f0 = 2
      · by_cases c2 : xs[i].f2 < 0
        · obtain ⟨t, T, ht⟩ := spec_dec_of 0 (by decide)
          have e0 : pieceL xs[i] = Lib.itoa 0 := by
            unfold pieceL pieceB mx
            rw [if_pos c, if_pos c2]
          have htz : t.size ≤ 1048576 := by
            have e : t.data.toList.length = t.size := rfl
            rw [← e, ht, ← e0]; exact hpl
          refine ⟨t, by rw [ht, e0], fun R H => ev_s2 T H fun k e e' => ?_⟩
          rw [spec_SignText.j1, if_pos q1, if_pos q2, rdG_nat xs i hi, if_pos c, if_pos c2, e, Option.bind_some, if_pos (by omega), w]
          exact e'
        · obtain ⟨t, T, ht⟩ := spec_dec_of xs[i].f2 ok.2
          have e0 : pieceL xs[i] = Lib.itoa xs[i].f2 := by
            unfold pieceL pieceB mx
            rw [if_pos c, if_neg c2]
          have htz : t.size ≤ 1048576 := by
            have e : t.data.toList.length = t.size := rfl
            rw [← e, ht, ← e0]; exact hpl
          refine ⟨t, by rw [ht, e0], fun R H => ev_s2 T H fun k e e' => ?_⟩
          rw [spec_SignText.j1, if_pos q1, if_pos q2, rdG_nat xs i hi, if_pos c, if_neg c2, e, Option.bind_some, if_pos (by omega), w]
          exact e'
      · have e0 : pieceL xs[i] = xs[i].f1.data.toList := by
          unfold pieceL pieceB
          rw [if_neg c]
        have htz := ok.1
        refine ⟨xs[i].f1, e0.symm, fun R H => ev_s1 H fun k e' => ?_⟩
        rw [spec_SignText.j1, if_pos q1, if_pos q2, rdG_nat xs i hi, if_neg c, if_pos (by omega), w]
        exact e'
    obtain ⟨R, H, hR⟩ := spec_txt_l0 xs hl hp d (i + 1) (s1 ++ p) (by omega) (by rw [ByteArray.data_append, Array.toList_append, E, hs1])
    exact ⟨R, head R (hpd R H), hR⟩
theorem spec_SignText_ev (xs : List SgT) (hl : xs.length ≤ 1048576) (hp : ∀ x ∈ xs, sgOk x) : ∃ R : ByteArray, Ev (fun k => spec_SignText.f k xs) R ∧ R.data.toList = Lib.join (xs.map pieceL) [32] := by
  obtain ⟨R, H, hR⟩ := spec_txt_l0 xs hl hp xs.length 0 ⟨#[]⟩ (by omega) (by simp [Lib.join_nil])
  exact ⟨R, ev_a1 H fun k e => e, hR⟩
theorem impl_txt_l0 (xs : List SgT) (hl : xs.length ≤ 1048576) (hp : ∀ x ∈ xs, sgOk x) : ∀ (d i : Nat), i + d = xs.length →
    Ev (fun k => impl_SignText.l0 k ((xs.map pieceB).take i) xs (xs.length : Int) (i : Int)) ⟨(Lib.join (xs.map pieceL) [32]).toArray⟩
  | 0, i, h => ev_s0 fun k => by
    have e1 : (xs.map pieceB).take i = xs.map pieceB := List.take_of_length_le (by simp; omega)
    have e2 : (xs.map pieceB).map (fun x => x.data.toList) = xs.map pieceL := by rw [List.map_map]; rfl
    have hj := join_le (xs.map pieceL) (fun p hp' => by
        obtain ⟨y, hy, rfl⟩ := List.mem_map.mp hp'
        exact pieceL_len y (hp y hy))
    rw [List.length_map] at hj
    have e3 : (⟨#[32]⟩ : ByteArray).data.toList = [32] := rfl
    rw [impl_SignText.l0, if_neg (by omega), e1, strings_Join.f, e2, e3, if_pos ⟨by rw [List.length_map]; omega, by omega⟩]
    rfl
  | d + 1, i, h => by
    have hi : i < xs.length := by omega
    have him : i < (xs.map pieceB).length := by simpa using hi
    have ok := hp xs[i] (List.getElem_mem hi)
    have e0 : (xs.map pieceB).take (i + 1) = (xs.map pieceB).take i ++ [pieceB xs[i]] := by
      rw [List.take_succ_eq_append_getElem him]; simp
    have hlen : ((xs.map pieceB).take i).length < 8796093022208 := by rw [List.length_take]; omega
    refine ev_s1 (impl_txt_l0 xs hl hp d (i + 1) (by omega)) fun k e => ?_
    rw [e0] at e
    rw [impl_SignText.l0, if_pos (by omega), if_pos (by omega), if_pos (by omega), rdG_nat xs i hi, w_succ (by omega)]
    by_cases c : xs[i].f0 = 2
    · have e1 : pieceB xs[i] = ⟨(Lib.itoa (mx xs[i].f2 0)).toArray⟩ := by unfold pieceB; rw [if_pos c]
      rw [if_pos c, impl_Decimal_is _ (mx_wf _ ok.2), Option.bind_some, if_pos hlen, ← e1]
      exact e
    · have e1 : pieceB xs[i] = xs[i].f1 := by unfold pieceB; rw [if_neg c]
      rw [if_neg c, if_pos hlen, ← e1]
      exact e
theorem impl_SignText_ev (xs : List SgT) (hl : xs.length ≤ 1048576) (hp : ∀ x ∈ xs, sgOk x) : Ev (fun k => impl_SignText.f k xs) ⟨(Lib.join (xs.map pieceL) [32]).toArray⟩ :=
  ev_a1 (impl_txt_l0 xs hl hp xs.length 0 (by omega)) fun k e => by
    have e' : impl_SignText.l0 k ((xs.map pieceB).take 0) xs (xs.length : Int) ((0 : Nat) : Int) = some ⟨(Lib.join (xs.map pieceL) [32]).toArray⟩ := e
    rw [List.take_zero] at e'
    exact e'

theorem FnExactSignText : ∀ (l0 : List S44), (l0.length ≤ maxLen ∧ ∀ a ∈ l0, G44 a) → ∃ k, laws_FnExactSignText.f k l0 = some true := by
  intro l hl
  obtain ⟨r, E1, h1⟩ := laws_szSignS_or l 1048576 (by decide) (by decide) hl.1 (fun x hx => (hl.2 x hx).2.1)
  by_cases c : r < 0
  · obtain ⟨k, e⟩ := E1.rounds
    have e' : laws_szSignS.f k l 1048576 = some r := e
    exact ⟨k, by rw [laws_FnExactSignText.f, e', Option.bind_some, if_pos c]⟩
  rcases h1 with h1 | h1
  · exact absurd h1 c
  have hm : (l.map sgOf).length ≤ 1048576 := by rw [List.length_map]; exact h1.2.2.1
  have hok : ∀ x ∈ l.map sgOf, sgOk x := fun x hx => by
    obtain ⟨y, hy, rfl⟩ := List.mem_map.mp hx
    exact ⟨h1.2.2.2 y hy, (hl.2 y hy).2.2⟩
  obtain ⟨R, E2, hR⟩ := spec_SignText_ev (l.map sgOf) hm hok
  obtain ⟨K1, e1⟩ := E1
  obtain ⟨K2, e2⟩ := E2
  obtain ⟨K3, e3⟩ := laws_toSignS_ev l h1.2.2.1
  obtain ⟨K4, e4⟩ := impl_SignText_ev (l.map sgOf) hm hok
  obtain ⟨K5, e5⟩ := laws_eqSignS_ev (l.map sgOf) (by omega)
  refine ⟨K1 + K2 + K3 + K4 + K5, ?_⟩
  have f1 := e1 (K1 + K2 + K3 + K4 + K5) (by omega)
  have f2 := e2 (K1 + K2 + K3 + K4 + K5) (by omega)
  have f3 := e3 (K1 + K2 + K3 + K4 + K5) (by omega)
  have f4 := e4 (K1 + K2 + K3 + K4 + K5) (by omega)
  have f5 := e5 (K1 + K2 + K3 + K4 + K5) (by omega)
  have q : (⟨(Lib.join ((l.map sgOf).map pieceL) [32]).toArray⟩ : ByteArray).toList = R.toList := by
    rw [Lib.toList_data, Lib.toList_data, hR]
  simp only [laws_FnExactSignText.f]
  simp only [f1, f2, f3, f4, f5, Option.bind_some, if_neg c, if_pos q, if_true]
end Go.Proofs.YtodicbbeaidibaaDoor.Pure
