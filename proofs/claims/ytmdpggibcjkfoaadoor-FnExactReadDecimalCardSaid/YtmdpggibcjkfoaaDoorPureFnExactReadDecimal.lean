/- The program's ReadDecimal returns what the reference's returns, for every text. No condition beside what the statement itself asks. -/
import Derived.Test.YtmdpggibcjkfoaaDoorPFnExactReadDecimalx1
import Derived.Lib.ItoaNum
import Derived.Lib.Atoi
import Derived.Lib.Bytes
set_option linter.unusedVariables false
set_option linter.unusedSimpArgs false
namespace Go.Proofs.YtmdpggibcjkfoaaDoor.Pure
open Go.RowKit Go.Proofs.YtmdpggibcjkfoaaDoor.PFnExactReadDecimal Go.Proofs.YtmdpggibcjkfoaaDoorW.PrintWords Go.Proofs.YtmdpggibcjkfoaaDoorW.PrintLast

theorem b_w64 {x : Int} (h0 : -9223372036854775808 ≤ x) (h1 : x ≤ 9223372036854775807) : wrap64 x = x := by unfold wrap64; omega
theorem b_i64 {x : Int} (h : (Lit.int .i64 x).wf = true) : -9223372036854775808 ≤ x ∧ x ≤ 9223372036854775807 := by
  simp only [Lit.wf, Bool.and_eq_true, decide_eq_true_eq] at h
  have h1 : IntKind.i64.min = -9223372036854775808 := by decide
  have h2 : IntKind.i64.max = 9223372036854775807 := by decide
  omega
theorem b_u32 {x : Int} (h : (Lit.int .u32 x).wf = true) : 0 ≤ x ∧ x < 4294967296 := by
  simp only [Lit.wf, Bool.and_eq_true, decide_eq_true_eq] at h
  have h1 : IntKind.u32.min = 0 := by decide
  have h2 : IntKind.u32.max = 4294967295 := by decide
  omega
theorem b_tmod {x y : Int} (h : 0 ≤ x) : Int.tmod x y = x % y := Int.tmod_eq_emod_of_nonneg h
theorem b_tdiv {x y : Int} (h : 0 ≤ x) : Int.tdiv x y = x / y := Int.tdiv_eq_ediv_of_nonneg h
theorem b_ev_eq {α : Type} {g : Nat → Option α} {r r' : α} (h : Ev g r) (e : r = r') : Ev g r' := e ▸ h
theorem b_two {α β : Type} {g : Nat → Option α} {f : Nat → Option β} {a : α} {b : β} (h : Ev g a) (h' : Ev f b) : ∃ k, g k = some a ∧ f k = some b := by
  obtain ⟨K, h⟩ := h
  obtain ⟨K', h'⟩ := h'
  exact ⟨max K K', h _ (by omega), h' _ (by omega)⟩
theorem b_list_take_succ {α : Type} (l : List α) (i : Nat) (h : i < l.length) : l.take (i + 1) = l.take i ++ [l[i]] := by
  rw [List.take_succ_eq_append_getElem h]
theorem ev_a0 {α : Type} {F : Nat → Option α} {r : α} (H : ∀ k, F k = some r) : Ev F r := ⟨0, fun k _ => H k⟩
theorem ev_s0 {α : Type} {F : Nat → Option α} {r : α} (H : ∀ k, F (k + 1) = some r) : Ev F r := by
  refine ⟨1, fun k hk => ?_⟩
  obtain ⟨m, rfl⟩ : ∃ m, k = m + 1 := ⟨k - 1, by omega⟩
  exact H m
theorem ev_a1 {α β : Type} {F : Nat → Option α} {r : α} {g : Nat → Option β} {a : β} (ha : Ev g a) (H : ∀ k, g k = some a → F k = some r) : Ev F r := by
  obtain ⟨K, ha⟩ := ha
  exact ⟨K, fun k hk => H k (ha k hk)⟩
theorem ev_s1 {α β : Type} {F : Nat → Option α} {r : α} {g : Nat → Option β} {a : β} (ha : Ev g a) (H : ∀ k, g k = some a → F (k + 1) = some r) : Ev F r := by
  obtain ⟨K, ha⟩ := ha
  refine ⟨K + 1, fun k hk => ?_⟩
  obtain ⟨m, rfl⟩ : ∃ m, k = m + 1 := ⟨k - 1, by omega⟩
  exact H m (ha m (by omega))
theorem ev_and {α β : Type} {g : Nat → Option α} {f : Nat → Option β} {a : α} {b : β} (ha : Ev g a) (hb : Ev f b) : ∃ K, ∀ k, K ≤ k → g k = some a ∧ f k = some b := by
  obtain ⟨K, ha⟩ := ha
  obtain ⟨K', hb⟩ := hb
  exact ⟨max K K', fun k hk => ⟨ha k (by omega), hb k (by omega)⟩⟩
theorem ev_a2 {α β γ : Type} {F : Nat → Option α} {r : α} {g : Nat → Option β} {a : β} {f : Nat → Option γ} {b : γ} (ha : Ev g a) (hb : Ev f b) (H : ∀ k, g k = some a → f k = some b → F k = some r) : Ev F r := by
  obtain ⟨K, h⟩ := ev_and ha hb
  exact ⟨K, fun k hk => H k (h k hk).1 (h k hk).2⟩
theorem ev_s2 {α β γ : Type} {F : Nat → Option α} {r : α} {g : Nat → Option β} {a : β} {f : Nat → Option γ} {b : γ} (ha : Ev g a) (hb : Ev f b) (H : ∀ k, g k = some a → f k = some b → F (k + 1) = some r) : Ev F r := by
  obtain ⟨K, h⟩ := ev_and ha hb
  refine ⟨K + 1, fun k hk => ?_⟩
  obtain ⟨m, rfl⟩ : ∃ m, k = m + 1 := ⟨k - 1, by omega⟩
  exact H m (h m (by omega)).1 (h m (by omega)).2
theorem ev_a3 {α β γ δ : Type} {F : Nat → Option α} {r : α} {g : Nat → Option β} {a : β} {f : Nat → Option γ} {b : γ} {e : Nat → Option δ} {c : δ} (ha : Ev g a) (hb : Ev f b) (hc : Ev e c) (H : ∀ k, g k = some a → f k = some b → e k = some c → F k = some r) : Ev F r := by
  obtain ⟨K, h⟩ := ev_and ha hb
  obtain ⟨K', h'⟩ := hc
  exact ⟨max K K', fun k hk => H k (h k (by omega)).1 (h k (by omega)).2 (h' k (by omega))⟩
theorem ev_s3 {α β γ δ : Type} {F : Nat → Option α} {r : α} {g : Nat → Option β} {a : β} {f : Nat → Option γ} {b : γ} {e : Nat → Option δ} {c : δ} (ha : Ev g a) (hb : Ev f b) (hc : Ev e c) (H : ∀ k, g k = some a → f k = some b → e k = some c → F (k + 1) = some r) : Ev F r := by
  obtain ⟨K, h⟩ := ev_and ha hb
  obtain ⟨K', h'⟩ := hc
  refine ⟨max K K' + 1, fun k hk => ?_⟩
  obtain ⟨m, rfl⟩ : ∃ m, k = m + 1 := ⟨k - 1, by omega⟩
  exact H m (h m (by omega)).1 (h m (by omega)).2 (h' m (by omega))
def evp {α β : Type} (x : Option α) (y : Option β) : Option (α × β) := x.bind fun a => y.bind fun b => some (a, b)
theorem ev_pair {α β : Type} {g : Nat → Option α} {f : Nat → Option β} {a : α} {b : β} (ha : Ev g a) (hb : Ev f b) : Ev (fun k => evp (g k) (f k)) (a, b) :=
  ev_a2 ha hb (fun k e e2 => by simp [evp, e, e2])
theorem ev_pair_l {α β : Type} {x : Option α} {y : Option β} {a : α} {b : β} (h : evp x y = some (a, b)) : x = some a := by
  unfold evp at h
  cases x with
  | none => simp at h
  | some x => cases y with
    | none => simp at h
    | some y => simp at h; simp [h.1]
theorem ev_pair_r {α β : Type} {x : Option α} {y : Option β} {a : α} {b : β} (h : evp x y = some (a, b)) : y = some b := by
  unfold evp at h
  cases x with
  | none => simp at h
  | some x => cases y with
    | none => simp at h
    | some y => simp at h; simp [h.2]

theorem decFrom_app (b : List UInt8) : ∀ (a : List UInt8) (acc : Nat), Lib.decFrom acc (a ++ b) = (Lib.decFrom acc a).bind fun n => Lib.decFrom n b
  | [], acc => rfl
  | x :: a, acc => by
    rw [List.cons_append, Lib.decFrom, Lib.decFrom]
    cases Lib.digitVal x with
    | none => rfl
    | some d => exact decFrom_app b a _
theorem digitVal_of (d : Nat) (h : d < 10) : Lib.digitVal (UInt8.ofNat (48 + d)) = some d := by
  have : d = 0 ∨ d = 1 ∨ d = 2 ∨ d = 3 ∨ d = 4 ∨ d = 5 ∨ d = 6 ∨ d = 7 ∨ d = 8 ∨ d = 9 := by omega
  rcases this with h | h | h | h | h | h | h | h | h | h <;> subst h <;> rfl
theorem decFrom_digits (m : Nat) : Lib.decFrom 0 (Lib.decDigits m) = some m := by
  induction m using Nat.strongRecOn with
  | _ m ih =>
    rw [Lib.decDigits]
    by_cases c : m < 10
    · rw [dif_pos c, Lib.decFrom, digitVal_of m c]
      simp [Lib.decFrom]
    · rw [dif_neg c, decFrom_app, ih (m / 10) (by omega), Option.bind_some, Lib.decFrom, digitVal_of (m % 10) (Nat.mod_lt _ (by decide))]
      simp only [Lib.decFrom]
      rw [show m / 10 * 10 + m % 10 = m by omega]
theorem atoi_of_dec (l : List UInt8) (h0 : l ≠ []) (m : Nat) (h : Lib.decFrom 0 l = some m) : Lib.atoi l = some (m : Int) := by
  cases l with
  | nil => exact absurd rfl h0
  | cons b r =>
    have hd : Lib.decNat (b :: r) = some m := by rw [Lib.decNat]; exact h
    have hb : ∃ d, Lib.digitVal b = some d := Lib.digit_of_decFrom (b :: r) 0 m h 0 b rfl
    obtain ⟨d, hb⟩ := hb
    have hb2 := Lib.digitVal_eq hb
    have n1 : (b == 45) = false := by
      apply beq_eq_false_iff_ne.mpr; intro e; rw [e] at hb2; exact absurd hb2.1 (by decide)
    have n2 : (b == 43) = false := by
      apply beq_eq_false_iff_ne.mpr; intro e; rw [e] at hb2; exact absurd hb2.1 (by decide)
    rw [Lib.atoi, n1, n2, if_neg (by decide), if_neg (by decide), hd]
    rfl
theorem nDigits_le (m k : Nat) (h : m < 10 ^ k) (hk : 1 ≤ k) : Lib.nDigits m ≤ k := by
  induction k generalizing m with
  | zero => omega
  | succ k ih =>
    by_cases c : m < 10
    · rw [Lib.nDigits_small c]; omega
    · rw [Lib.nDigits_big c]
      have hd : m / 10 < 10 ^ k := by rw [Nat.div_lt_iff_lt_mul (by decide), ← Nat.pow_succ]; exact h
      cases k with
      | zero => omega
      | succ k => have := ih (m / 10) hd (by omega); omega

open Given
def decD (m : Nat) : List UInt8 := if m = 0 then [] else Lib.decDigits m
theorem decD_step (m : Nat) (h : m ≠ 0) : decD m = decD (m / 10) ++ [UInt8.ofNat (48 + m % 10)] := by
  unfold decD
  rw [if_neg h, Lib.decDigits]
  by_cases c : m < 10
  · have e : m / 10 = 0 := by omega
    have e2 : m % 10 = m := by omega
    rw [dif_pos c, e, e2]
    simp
  · have e : ¬ m / 10 = 0 := by omega
    rw [dif_neg c, if_neg e]
theorem one_char (d : Nat) (h : d < 10) : (strOfNums [((48 + d : Nat) : Int)]).data.toList = [UInt8.ofNat (48 + d)] := by
  have : d = 0 ∨ d = 1 ∨ d = 2 ∨ d = 3 ∨ d = 4 ∨ d = 5 ∨ d = 6 ∨ d = 7 ∨ d = 8 ∨ d = 9 := by omega
  rcases this with h | h | h | h | h | h | h | h | h | h <;> subst h <;> rfl
theorem spec_figc (d : Nat) (h : d < 10) : spec_l01Figure.f (d : Int) = some ((48 + d : Nat) : Int) := by
  have e : wrap64 (48 + (d : Int)) % 256 = ((48 + d : Nat) : Int) := by rw [b_w64 (by omega) (by omega)]; omega
  rw [spec_l01Figure.f, if_pos (by omega), e]
def sgnI (neg : Bool) (m : Nat) : Int := if neg = true then -(m : Int) else (m : Int)
theorem sgn_div (neg : Bool) (m : Nat) (h : m ≤ 9223372036854775808) : wrap64 (Int.tdiv (sgnI neg m) 10) = sgnI neg (m / 10) := by
  have e : Int.tdiv (m : Int) 10 = ((m / 10 : Nat) : Int) := by rw [b_tdiv (by omega)]; omega
  cases neg
  · show wrap64 (Int.tdiv (m : Int) 10) = ((m / 10 : Nat) : Int)
    rw [e]; exact b_w64 (by omega) (by omega)
  · show wrap64 (Int.tdiv (-(m : Int)) 10) = -((m / 10 : Nat) : Int)
    rw [Int.neg_tdiv, e]; exact b_w64 (by omega) (by omega)
theorem sgn_mod (neg : Bool) (m : Nat) : Int.tmod (sgnI neg m) 10 = sgnI neg (m % 10) := by
  have e : Int.tmod (m : Int) 10 = ((m % 10 : Nat) : Int) := by rw [b_tmod (by omega)]; omega
  cases neg
  · exact e
  · show Int.tmod (-(m : Int)) 10 = -((m % 10 : Nat) : Int)
    rw [Int.neg_tmod, e]
theorem dec_l0 (neg : Bool) : ∀ (d m : Nat) (s : ByteArray), m < 10 ^ d → m ≤ 9223372036854775808 → s.size + d ≤ 1000 →
    ∃ R : ByteArray, Ev (fun k => spec_Decimal.l0 k (sgnI neg m) neg s) R ∧ R.data.toList = (if neg = true then [45] else []) ++ (decD m ++ s.data.toList) := by
  have base : ∀ s : ByteArray, s.size ≤ 1000 → ∃ R : ByteArray, Ev (fun k => spec_Decimal.l0 k (sgnI neg 0) neg s) R ∧ R.data.toList = (if neg = true then [45] else []) ++ (decD 0 ++ s.data.toList) := by
    intro s hs
    have e0 : sgnI neg 0 = 0 := by cases neg <;> rfl
    rw [e0]
    cases neg
    · exact ⟨s, ev_s0 fun k => by rw [spec_Decimal.l0, if_pos rfl, if_neg (by decide)], by simp [decD]⟩
    · exact ⟨(⟨#[45]⟩ : ByteArray) ++ s, ev_s0 fun k => by rw [spec_Decimal.l0, if_pos rfl, if_pos rfl, if_pos (by omega)], by simp [decD, ByteArray.data_append]⟩
  intro d
  induction d with
  | zero =>
    intro m s h h1 hs
    have : m = 0 := by omega
    subst this
    exact base s (by omega)
  | succ d ih =>
    intro m s h h1 hs
    by_cases c : m = 0
    · subst c
      exact base s (by omega)
    · have hd : m / 10 < 10 ^ d := by rw [Nat.div_lt_iff_lt_mul (by decide), ← Nat.pow_succ]; exact h
      have hsz : (strOfNums [((48 + m % 10 : Nat) : Int)]).size = 1 := by rw [strOfNums_size]; rfl
      have hm10 : m % 10 < 10 := Nat.mod_lt _ (by decide)
      obtain ⟨R, E, hR⟩ := ih (m / 10) (strOfNums [((48 + m % 10 : Nat) : Int)] ++ s) hd (by omega) (by rw [ByteArray.size_append, hsz]; omega)
      refine ⟨R, ev_s1 E fun k e => ?_, ?_⟩
      · have n0 : ¬ sgnI neg m = 0 := by cases neg <;> simp [sgnI] <;> omega
        have hz : 1 + s.size ≤ 9223372036854775807 := by omega
        rw [spec_Decimal.l0, if_neg n0, sgn_mod, sgn_div neg m h1]
        by_cases q : sgnI neg (m % 10) < 0
        · have e1 : wrap64 (-(sgnI neg (m % 10))) = ((m % 10 : Nat) : Int) := by
            cases neg
            · exact absurd q (by simp [sgnI]; omega)
            · show wrap64 (- -((m % 10 : Nat) : Int)) = _
              rw [Int.neg_neg]; exact b_w64 (by omega) (by omega)
          rw [if_pos q, e1, spec_figc _ hm10, Option.bind_some, Option.bind_some, hsz, if_pos hz]
          exact e
        · have e1 : sgnI neg (m % 10) = ((m % 10 : Nat) : Int) := by
            cases neg
            · rfl
            · have : m % 10 = 0 := by simp [sgnI] at q; omega
              rw [this]; rfl
          rw [if_neg q, e1, spec_figc _ hm10, Option.bind_some, Option.bind_some, hsz, if_pos hz]
          exact e
      · rw [hR, ByteArray.data_append, Array.toList_append, one_char _ hm10, decD_step m c, List.append_assoc]
theorem spec_Decimal_ev (n : Int) (h : (Lit.int .i64 n).wf = true) : ∃ R : ByteArray, Ev (fun k => spec_Decimal.f k n) R ∧ R.data.toList = Lib.itoa n := by
  have hb := b_i64 h
  by_cases c : n = 0
  · subst c
    exact ⟨⟨#[48]⟩, ev_a0 fun k => by rw [spec_Decimal.f, if_pos rfl], by rw [Lib.itoa, if_neg (by decide), show (0 : Int).toNat = 0 from rfl, Lib.decDigits_one (by decide)]; rfl⟩
  · obtain ⟨R, E, hR⟩ := dec_l0 (decide (n < 0)) 20 n.natAbs ⟨#[]⟩ (by omega) (by omega) (by decide)
    have e : sgnI (decide (n < 0)) n.natAbs = n := by
      unfold sgnI
      by_cases q : n < 0
      · rw [if_pos (decide_eq_true q)]; omega
      · rw [if_neg (by simp [q])]; omega
    rw [e] at E
    refine ⟨R, ev_a1 E fun k e => by rw [spec_Decimal.f, if_neg c]; exact e, ?_⟩
    have n0 : ¬ n.natAbs = 0 := by omega
    rw [hR, Lib.itoa, decD, if_neg n0]
    by_cases q : n < 0
    · rw [if_pos (decide_eq_true q), if_pos q]; simp
    · rw [if_neg (by simp [q]), if_neg q, show n.toNat = n.natAbs by omega]; simp

/-- the numbers of m bytes of s from place a on -/
def seg (s : ByteArray) (a m : Nat) : List Int := (List.range m).map fun t => bt s ((a + t : Nat) : Int)
theorem seg_zero (s : ByteArray) (a : Nat) : seg s a 0 = [] := rfl
theorem seg_succ (s : ByteArray) (a m : Nat) : seg s a (m + 1) = seg s a m ++ [bt s ((a + m : Nat) : Int)] := by
  simp [seg, List.range_succ]
theorem seg_length (s : ByteArray) (a m : Nat) : (seg s a m).length = m := by simp [seg]
theorem bt_nat (s : ByteArray) (i : Nat) (h : i < s.size) : bt s (i : Int) = ((s.data.toList[i]'(by simpa using h)).toNat : Int) := by
  have e := bt_at s (i : Int) (by simpa using h)
  rw [← e]
  rfl
theorem extract_seg (s : ByteArray) (a : Nat) : ∀ m, a + m ≤ s.size → (s.extract a (a + m)).toList = Lib.bytesOf (seg s a m)
  | 0, h => by rw [Lib.extract_toList]; simp [seg, Lib.bytesOf]
  | m + 1, h => by
    have ih := extract_seg s a m (by omega)
    rw [Lib.extract_toList, show a + m - a = m by omega] at ih
    rw [Lib.extract_toList, show a + (m + 1) - a = m + 1 by omega, seg_succ]
    have hl : m < (s.data.toList.drop a).length := by
      rw [List.length_drop]; have : s.data.toList.length = s.size := rfl
      omega
    rw [List.take_succ_eq_append_getElem hl, ih]
    simp only [Lib.bytesOf, List.map_append, List.map_cons, List.map_nil]
    rw [bt_nat s (a + m) (by omega)]
    simp
theorem bytesOf_inj : ∀ {xs ys : List Int}, (∀ x ∈ xs, 0 ≤ x ∧ x ≤ 255) → (∀ x ∈ ys, 0 ≤ x ∧ x ≤ 255) → Lib.bytesOf xs = Lib.bytesOf ys → xs = ys
  | [], [], _, _, _ => rfl
  | [], y :: ys, _, _, h => by simp [Lib.bytesOf] at h
  | x :: xs, [], _, _, h => by simp [Lib.bytesOf] at h
  | x :: xs, y :: ys, hx, hy, h => by
    simp only [Lib.bytesOf, List.map_cons, List.cons.injEq] at h
    have h1 := hx x (by simp)
    have h2 := hy y (by simp)
    have e : x = y := by
      have := congrArg UInt8.toNat h.1
      simp only [UInt8.toNat_ofNat'] at this
      omega
    rw [e, bytesOf_inj (fun z hz => hx z (by simp [hz])) (fun z hz => hy z (by simp [hz])) h.2]

def rdV (s : ByteArray) : Option Nat → Int × Bool
  | some m => if m ≤ 1000000000 ∧ Lib.itoa (m : Int) = s.data.toList then ((m : Int), true) else (0, false)
  | none => (0, false)
theorem digitVal_bt (s : ByteArray) (i : Nat) (h : i < s.size) (hl : i < s.data.toList.length) :
    (bt s (i : Int) < 48 ∨ bt s (i : Int) > 57) ∧ Lib.digitVal s.data.toList[i] = none ∨ ∃ d : Nat, d < 10 ∧ bt s (i : Int) = ((48 + d : Nat) : Int) ∧ Lib.digitVal s.data.toList[i] = some d := by
  rw [bt_nat s i h]
  generalize s.data.toList[i] = b
  unfold Lib.digitVal
  by_cases c : 48 ≤ b.toNat ∧ b.toNat ≤ 57
  · rw [if_pos c]
    exact .inr ⟨b.toNat - 48, by omega, by omega, rfl⟩
  · rw [if_neg c]
    exact .inl ⟨by omega, rfl⟩
theorem spec_rd_l0 (s : ByteArray) (hs : s.size ≤ 10) : ∀ (d i n : Nat), i + d = s.size → n < 10 ^ i → Ev (fun k => spec_ReadDecimal.l0 k s (n : Int) (i : Int)) (rdV s (Lib.decFrom n (s.data.toList.drop i)))
  | 0, i, n, h, hn => by
    have hsz : s.data.toList.length = s.size := rfl
    have h10 : n < 10 ^ 10 := Nat.lt_of_lt_of_le hn (Nat.pow_le_pow_right (by decide) (by omega))
    have hwf : (Lit.int .i64 (n : Int)).wf = true := by
      have h1 : IntKind.i64.min = -9223372036854775808 := by decide
      have h2 : IntKind.i64.max = 9223372036854775807 := by decide
      simp only [Lit.wf, Bool.and_eq_true, decide_eq_true_eq, h1, h2]
      omega
    obtain ⟨R, E, hR⟩ := spec_Decimal_ev (n : Int) hwf
    rw [List.drop_eq_nil_of_le (by omega), Lib.decFrom, rdV]
    by_cases c : (n : Int) > 1000000000
    · refine ev_s0 fun k => ?_
      rw [spec_ReadDecimal.l0, if_neg (by omega), if_pos c, if_neg (by omega)]
    · refine ev_s1 E fun k e => ?_
      have er : R.toList = Lib.itoa (n : Int) := by rw [Lib.toList_data, hR]
      rw [spec_ReadDecimal.l0, if_neg (by omega), if_neg c, e, Option.bind_some, er, Lib.toList_data]
      by_cases q : Lib.itoa (n : Int) = s.data.toList
      · rw [if_pos q, if_pos ⟨by omega, q⟩]
      · rw [if_neg q, if_neg (fun z => q z.2)]
  | d + 1, i, n, h, hn => by
    have hsz : s.data.toList.length = s.size := rfl
    have hi : i < s.size := by omega
    have hl : i < s.data.toList.length := by omega
    have h9 : n < 10 ^ 9 := Nat.lt_of_lt_of_le hn (Nat.pow_le_pow_right (by decide) (by omega))
    have q1 : (i : Int) < (s.size : Int) := by omega
    have q2 : (0 : Int) ≤ (i : Int) := by omega
    rw [List.drop_eq_getElem_cons hl, Lib.decFrom]
    rcases digitVal_bt s i hi hl with ⟨hb, hv⟩ | ⟨d', hd, hb, hv⟩
    · rw [hv]
      refine ev_s0 fun k => ?_
      rw [spec_ReadDecimal.l0, if_pos q1, if_pos q2]
      by_cases c : bt s (i : Int) < 48
      · rw [if_pos c]; rfl
      · rw [if_neg c, if_pos (by omega)]; rfl
    · rw [hv]
      have hn' : n * 10 + d' < 10 ^ (i + 1) := by rw [Nat.pow_succ]; omega
      refine ev_s1 (spec_rd_l0 s hs d (i + 1) (n * 10 + d') (by omega) hn') fun k e => ?_
      have w : wrap64 ((wrap64 ((wrap64 (10 * (n : Int))) + (wrap64 ((48 + d' : Nat) : Int)))) - 48) = ((n * 10 + d' : Nat) : Int) := by
        rw [b_w64 (x := 10 * (n : Int)) (by omega) (by omega), b_w64 (x := ((48 + d' : Nat) : Int)) (by omega) (by omega), b_w64 (x := 10 * (n : Int) + ((48 + d' : Nat) : Int)) (by omega) (by omega), b_w64 (by omega) (by omega)]
        omega
      rw [spec_ReadDecimal.l0, if_pos q1, if_pos q2, hb, if_neg (by omega), if_neg (by omega), w]
      have w2 : wrap64 ((i : Int) + 1) = ((i + 1 : Nat) : Int) := by unfold wrap64; omega
      rw [w2]
      exact e
theorem impl_rd_is (s : ByteArray) (hs : s.size ≤ 10) : impl_ReadDecimal.f s = some (rdV s (Lib.decFrom 0 s.data.toList)) := by
  have hsz : s.data.toList.length = s.size := rfl
  rw [impl_ReadDecimal.f]
  by_cases c : 1 ≤ s.size ∧ s.size ≤ 10
  · rw [if_pos c]
    have h0 : s.data.toList ≠ [] := by intro e; rw [e] at hsz; simp at hsz; omega
    cases hd : Lib.decFrom 0 s.data.toList with
    | some m =>
      rw [atoi_of_dec _ h0 m hd]
      simp only [rdV]
      by_cases q : m ≤ 1000000000
      · rw [if_pos (show 0 ≤ (m : Int) ∧ (m : Int) ≤ 1000000000 by omega)]
        by_cases z : Lib.itoa (m : Int) = s.data.toList
        · rw [if_pos z, if_pos ⟨q, z⟩]
        · rw [if_neg z, if_neg (fun y => z y.2)]
      · rw [if_neg (show ¬ (0 ≤ (m : Int) ∧ (m : Int) ≤ 1000000000) by omega), if_neg (fun y => q y.1)]
    | none =>
      simp only [rdV]
      cases ha : Lib.atoi s.data.toList with
      | none => rfl
      | some n =>
        simp only []
        by_cases q : 0 ≤ n ∧ n ≤ 1000000000
        · rw [if_pos q]
          by_cases z : Lib.itoa n = s.data.toList
          · exfalso
            rw [← z, Lib.itoa, if_neg (by omega), decFrom_digits] at hd
            cases hd
          · rw [if_neg z]
        · rw [if_neg q]
  · rw [if_neg c]
    have e0 : s.data.toList = [] := by
      cases h : s.data.toList with
      | nil => rfl
      | cons a r => rw [h] at hsz; simp at hsz; omega
    rw [e0, Lib.decFrom, rdV, if_neg]
    intro h
    rw [e0] at h
    have h2 := h.2
    rw [Lib.itoa, if_neg (by decide), show ((0 : Nat) : Int).toNat = 0 from rfl, Lib.decDigits_one (by decide)] at h2
    cases h2

theorem FnExactReadDecimal : laws_FnExactReadDecimal.Pure := by
  intro s hs
  by_cases big : (s.size : Int) > 1048576
  · exact ⟨0, by rw [laws_FnExactReadDecimal.f, if_pos big]⟩
  by_cases c : (s.size : Int) > 10
  · refine ⟨0, ?_⟩
    rw [laws_FnExactReadDecimal.f, if_neg big, spec_ReadDecimal.f, if_pos c, Option.bind_some, impl_ReadDecimal.f, if_neg (by omega), Option.bind_some]
    simp
  · obtain ⟨k, e⟩ := (spec_rd_l0 s (by omega) s.size 0 0 (by omega) (by decide)).rounds
    have e' : spec_ReadDecimal.l0 k s 0 0 = some (rdV s (Lib.decFrom 0 s.data.toList)) := e
    refine ⟨k, ?_⟩
    rw [laws_FnExactReadDecimal.f, if_neg big, spec_ReadDecimal.f, if_neg c, e', Option.bind_some, impl_rd_is s (by omega), Option.bind_some]
    simp
end Go.Proofs.YtmdpggibcjkfoaaDoor.Pure
