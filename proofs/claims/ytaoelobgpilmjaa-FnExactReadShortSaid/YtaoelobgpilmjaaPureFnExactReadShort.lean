/- The program's ReadShort returns what the reference's returns, for every text and every place. No condition beside what the statement itself asks. -/
import Derived.Test.YtaoelobgpilmjaaPFnExactReadShortx2
import Derived.Lib.Bytes
set_option linter.unusedVariables false
set_option linter.unusedSimpArgs false
namespace Go.Proofs.Ytaoelobgpilmjaa.Pure
open Go.RowKit Go.Proofs.Ytaoelobgpilmjaa.PFnExactReadShort Go.Proofs.YtaoelobgpilmjaaW.PrintWords Go.Proofs.YtaoelobgpilmjaaW.PrintLast

theorem b_w64 {x : Int} (h0 : -9223372036854775808 ≤ x) (h1 : x ≤ 9223372036854775807) : wrap64 x = x := by unfold wrap64; omega
theorem b_i64 {x : Int} (h : (Lit.int .i64 x).wf = true) : -9223372036854775808 ≤ x ∧ x ≤ 9223372036854775807 := by
  simp only [Lit.wf, Bool.and_eq_true, decide_eq_true_eq] at h
  have h1 : IntKind.i64.min = -9223372036854775808 := by decide
  have h2 : IntKind.i64.max = 9223372036854775807 := by decide
  omega
theorem b_u32 {x : Int} (h : (Lit.int .u32 x).wf = true) : 0 ≤ x ∧ x < 4294967296 := by
  simp only [Lit.wf, Bool.and_eq_true, decide_eq_true_eq] at h
  have h1 : IntKind.u32.min = 0 := by decide
  have h2 : IntKind.u32.max = 4294967295 := by decide
  omega
theorem b_tmod {x y : Int} (h : 0 ≤ x) : Int.tmod x y = x % y := Int.tmod_eq_emod_of_nonneg h
theorem b_tdiv {x y : Int} (h : 0 ≤ x) : Int.tdiv x y = x / y := Int.tdiv_eq_ediv_of_nonneg h
theorem b_ev_eq {α : Type} {g : Nat → Option α} {r r' : α} (h : Ev g r) (e : r = r') : Ev g r' := e ▸ h
theorem b_two {α β : Type} {g : Nat → Option α} {f : Nat → Option β} {a : α} {b : β} (h : Ev g a) (h' : Ev f b) : ∃ k, g k = some a ∧ f k = some b := by
  obtain ⟨K, h⟩ := h
  obtain ⟨K', h'⟩ := h'
  exact ⟨max K K', h _ (by omega), h' _ (by omega)⟩
theorem b_list_take_succ {α : Type} (l : List α) (i : Nat) (h : i < l.length) : l.take (i + 1) = l.take i ++ [l[i]] := by
  rw [List.take_succ_eq_append_getElem h]
theorem ev_a0 {α : Type} {F : Nat → Option α} {r : α} (H : ∀ k, F k = some r) : Ev F r := ⟨0, fun k _ => H k⟩
theorem ev_s0 {α : Type} {F : Nat → Option α} {r : α} (H : ∀ k, F (k + 1) = some r) : Ev F r := by
  refine ⟨1, fun k hk => ?_⟩
  obtain ⟨m, rfl⟩ : ∃ m, k = m + 1 := ⟨k - 1, by omega⟩
  exact H m
theorem ev_a1 {α β : Type} {F : Nat → Option α} {r : α} {g : Nat → Option β} {a : β} (ha : Ev g a) (H : ∀ k, g k = some a → F k = some r) : Ev F r := by
  obtain ⟨K, ha⟩ := ha
  exact ⟨K, fun k hk => H k (ha k hk)⟩
theorem ev_s1 {α β : Type} {F : Nat → Option α} {r : α} {g : Nat → Option β} {a : β} (ha : Ev g a) (H : ∀ k, g k = some a → F (k + 1) = some r) : Ev F r := by
  obtain ⟨K, ha⟩ := ha
  refine ⟨K + 1, fun k hk => ?_⟩
  obtain ⟨m, rfl⟩ : ∃ m, k = m + 1 := ⟨k - 1, by omega⟩
  exact H m (ha m (by omega))
theorem ev_and {α β : Type} {g : Nat → Option α} {f : Nat → Option β} {a : α} {b : β} (ha : Ev g a) (hb : Ev f b) : ∃ K, ∀ k, K ≤ k → g k = some a ∧ f k = some b := by
  obtain ⟨K, ha⟩ := ha
  obtain ⟨K', hb⟩ := hb
  exact ⟨max K K', fun k hk => ⟨ha k (by omega), hb k (by omega)⟩⟩
theorem ev_a2 {α β γ : Type} {F : Nat → Option α} {r : α} {g : Nat → Option β} {a : β} {f : Nat → Option γ} {b : γ} (ha : Ev g a) (hb : Ev f b) (H : ∀ k, g k = some a → f k = some b → F k = some r) : Ev F r := by
  obtain ⟨K, h⟩ := ev_and ha hb
  exact ⟨K, fun k hk => H k (h k hk).1 (h k hk).2⟩
theorem ev_s2 {α β γ : Type} {F : Nat → Option α} {r : α} {g : Nat → Option β} {a : β} {f : Nat → Option γ} {b : γ} (ha : Ev g a) (hb : Ev f b) (H : ∀ k, g k = some a → f k = some b → F (k + 1) = some r) : Ev F r := by
  obtain ⟨K, h⟩ := ev_and ha hb
  refine ⟨K + 1, fun k hk => ?_⟩
  obtain ⟨m, rfl⟩ : ∃ m, k = m + 1 := ⟨k - 1, by omega⟩
  exact H m (h m (by omega)).1 (h m (by omega)).2
theorem ev_a3 {α β γ δ : Type} {F : Nat → Option α} {r : α} {g : Nat → Option β} {a : β} {f : Nat → Option γ} {b : γ} {e : Nat → Option δ} {c : δ} (ha : Ev g a) (hb : Ev f b) (hc : Ev e c) (H : ∀ k, g k = some a → f k = some b → e k = some c → F k = some r) : Ev F r := by
  obtain ⟨K, h⟩ := ev_and ha hb
  obtain ⟨K', h'⟩ := hc
  exact ⟨max K K', fun k hk => H k (h k (by omega)).1 (h k (by omega)).2 (h' k (by omega))⟩
theorem ev_s3 {α β γ δ : Type} {F : Nat → Option α} {r : α} {g : Nat → Option β} {a : β} {f : Nat → Option γ} {b : γ} {e : Nat → Option δ} {c : δ} (ha : Ev g a) (hb : Ev f b) (hc : Ev e c) (H : ∀ k, g k = some a → f k = some b → e k = some c → F (k + 1) = some r) : Ev F r := by
  obtain ⟨K, h⟩ := ev_and ha hb
  obtain ⟨K', h'⟩ := hc
  refine ⟨max K K' + 1, fun k hk => ?_⟩
  obtain ⟨m, rfl⟩ : ∃ m, k = m + 1 := ⟨k - 1, by omega⟩
  exact H m (h m (by omega)).1 (h m (by omega)).2 (h' m (by omega))
def evp {α β : Type} (x : Option α) (y : Option β) : Option (α × β) := x.bind fun a => y.bind fun b => some (a, b)
theorem ev_pair {α β : Type} {g : Nat → Option α} {f : Nat → Option β} {a : α} {b : β} (ha : Ev g a) (hb : Ev f b) : Ev (fun k => evp (g k) (f k)) (a, b) :=
  ev_a2 ha hb (fun k e e2 => by simp [evp, e, e2])
theorem ev_pair_l {α β : Type} {x : Option α} {y : Option β} {a : α} {b : β} (h : evp x y = some (a, b)) : x = some a := by
  unfold evp at h
  cases x with
  | none => simp at h
  | some x => cases y with
    | none => simp at h
    | some y => simp at h; simp [h.1]
theorem ev_pair_r {α β : Type} {x : Option α} {y : Option β} {a : α} {b : β} (h : evp x y = some (a, b)) : y = some b := by
  unfold evp at h
  cases x with
  | none => simp at h
  | some x => cases y with
    | none => simp at h
    | some y => simp at h; simp [h.2]

def varL : Nat → Nat → List Int
  | 0, n => [(n : Int)]
  | d + 1, n => if 127 < n then ((128 + n % 128 : Nat) : Int) :: varL d (n / 128) else [(n : Int)]
theorem varL_length : ∀ (d n : Nat), (varL d n).length ≤ d + 1
  | 0, n => by simp [varL]
  | d + 1, n => by
    rw [varL]
    split
    · have := varL_length d (n / 128); simp; omega
    · simp

theorem spec_l01Var_l0 : ∀ (d n : Nat) (acc : List Int), n < 128 ^ (d + 1) → n < 9223372036854775808 → acc.length + d < 140737488355328 →
    Ev (fun k => spec_l01Var.l0 k (n : Int) acc) (strOfNums (acc ++ varL d n))
  | 0, n, acc, h, hn, hl => by
    refine Ev.step (fun k => ?_) (Ev.now _)
    simp only [spec_l01Var.l0]
    rw [if_neg (by omega), if_pos (by omega), show (n : Int) % 256 = n by omega]; rfl
  | d + 1, n, acc, h, hn, hl => by
    by_cases hc : 127 < n
    · have hd : n / 128 < 128 ^ (d + 1) := by
        rw [Nat.div_lt_iff_lt_mul (by decide), ← Nat.pow_succ]; exact h
      have ih := spec_l01Var_l0 d (n / 128) (acc ++ [((128 + n % 128 : Nat) : Int)]) hd (by omega) (by simp; omega)
      rw [List.append_assoc, List.singleton_append] at ih
      refine b_ev_eq (Ev.step (fun k => ?_) ih) (by rw [varL, if_pos hc])
      simp only [spec_l01Var.l0]
      rw [if_pos (by omega), if_pos (by omega), b_tdiv (by omega), b_tmod (by omega), show wrap64 ((n : Int) / 128) = ((n / 128 : Nat) : Int) by unfold wrap64; omega,
        show (wrap64 ((n : Int) % 128 + 128)) % 256 = ((128 + n % 128 : Nat) : Int) by unfold wrap64; omega]
    · refine b_ev_eq (Ev.step (fun k => ?_) (Ev.now _)) (by rw [varL, if_neg hc])
      simp only [spec_l01Var.l0]
      rw [if_neg (by omega), if_pos (by omega), show (n : Int) % 256 = n by omega]
theorem spec_l01Var_ev (n : Nat) (hn : n < 9223372036854775808) : Ev (fun k => spec_l01Var.f k (n : Int)) (strOfNums (varL 9 n)) :=
  spec_l01Var_l0 9 n [] (by omega) hn (by simp)

/-- the numbers of m bytes of s from place a on -/
def seg (s : ByteArray) (a m : Nat) : List Int := (List.range m).map fun t => bt s ((a + t : Nat) : Int)
theorem seg_zero (s : ByteArray) (a : Nat) : seg s a 0 = [] := rfl
theorem seg_succ (s : ByteArray) (a m : Nat) : seg s a (m + 1) = seg s a m ++ [bt s ((a + m : Nat) : Int)] := by
  simp [seg, List.range_succ]
theorem seg_length (s : ByteArray) (a m : Nat) : (seg s a m).length = m := by simp [seg]
theorem bt_nat (s : ByteArray) (i : Nat) (h : i < s.size) : bt s (i : Int) = ((s.data.toList[i]'(by simpa using h)).toNat : Int) := by
  have e := bt_at s (i : Int) (by simpa using h)
  rw [← e]
  rfl
theorem extract_seg (s : ByteArray) (a : Nat) : ∀ m, a + m ≤ s.size → (s.extract a (a + m)).toList = Lib.bytesOf (seg s a m)
  | 0, h => by rw [Lib.extract_toList]; simp [seg, Lib.bytesOf]
  | m + 1, h => by
    have ih := extract_seg s a m (by omega)
    rw [Lib.extract_toList, show a + m - a = m by omega] at ih
    rw [Lib.extract_toList, show a + (m + 1) - a = m + 1 by omega, seg_succ]
    have hl : m < (s.data.toList.drop a).length := by
      rw [List.length_drop]; have : s.data.toList.length = s.size := rfl
      omega
    rw [List.take_succ_eq_append_getElem hl, ih]
    simp only [Lib.bytesOf, List.map_append, List.map_cons, List.map_nil]
    rw [bt_nat s (a + m) (by omega)]
    simp
theorem bytesOf_inj : ∀ {xs ys : List Int}, (∀ x ∈ xs, 0 ≤ x ∧ x ≤ 255) → (∀ x ∈ ys, 0 ≤ x ∧ x ≤ 255) → Lib.bytesOf xs = Lib.bytesOf ys → xs = ys
  | [], [], _, _, _ => rfl
  | [], y :: ys, _, _, h => by simp [Lib.bytesOf] at h
  | x :: xs, [], _, _, h => by simp [Lib.bytesOf] at h
  | x :: xs, y :: ys, hx, hy, h => by
    simp only [Lib.bytesOf, List.map_cons, List.cons.injEq] at h
    have h1 := hx x (by simp)
    have h2 := hy y (by simp)
    have e : x = y := by
      have := congrArg UInt8.toNat h.1
      simp only [UInt8.toNat_ofNat'] at this
      omega
    rw [e, bytesOf_inj (fun z hz => hx z (by simp [hz])) (fun z hz => hy z (by simp [hz])) h.2]

def p128 (j : Nat) : Int := ((128 ^ j : Nat) : Int)
theorem p128_vals : p128 0 = 1 ∧ p128 1 = 128 ∧ p128 2 = 16384 ∧ p128 3 = 2097152 ∧ p128 4 = 268435456 ∧ p128 5 = 34359738368 := by decide
theorem p128_succ (j : Nat) : p128 (j + 1) = 128 * p128 j := by unfold p128; rw [Nat.pow_succ]; push_cast; omega
theorem p128_le {j : Nat} (h : j ≤ 4) : 1 ≤ p128 j ∧ p128 j ≤ 268435456 := by
  have h5 := p128_vals
  rcases (by omega : j = 0 ∨ j = 1 ∨ j = 2 ∨ j = 3 ∨ j = 4) with rfl | rfl | rfl | rfl | rfl <;> omega
theorem p128_shl {j : Nat} (h : j ≤ 4) (x : Int) (h0 : 0 ≤ x) (h1 : x ≤ 127) : shl .i64 x (wrap64 (7 * (j : Int))) = x * p128 j := by
  have h5 := p128_vals
  unfold shl
  rw [IntKind.wrap_i64]
  rcases (by omega : j = 0 ∨ j = 1 ∨ j = 2 ∨ j = 3 ∨ j = 4) with rfl | rfl | rfl | rfl | rfl
  · rw [show min (wrap64 (7 * ((0 : Nat) : Int))).toNat IntKind.i64.bits = 0 by rw [show wrap64 (7 * ((0 : Nat) : Int)) = 0 by unfold wrap64; omega]; rfl, h5.1]; omega
  · rw [show min (wrap64 (7 * ((1 : Nat) : Int))).toNat IntKind.i64.bits = 7 by rw [show wrap64 (7 * ((1 : Nat) : Int)) = 7 by unfold wrap64; omega]; rfl, h5.2.1]; omega
  · rw [show min (wrap64 (7 * ((2 : Nat) : Int))).toNat IntKind.i64.bits = 14 by rw [show wrap64 (7 * ((2 : Nat) : Int)) = 14 by unfold wrap64; omega]; rfl, h5.2.2.1]; omega
  · rw [show min (wrap64 (7 * ((3 : Nat) : Int))).toNat IntKind.i64.bits = 21 by rw [show wrap64 (7 * ((3 : Nat) : Int)) = 21 by unfold wrap64; omega]; rfl, h5.2.2.2.1]; omega
  · rw [show min (wrap64 (7 * ((4 : Nat) : Int))).toNat IntKind.i64.bits = 28 by rw [show wrap64 (7 * ((4 : Nat) : Int)) = 28 by unfold wrap64; omega]; rfl, h5.2.2.2.2.1]; omega
theorem p128_mul {j : Nat} (h : j ≤ 4) (x : Int) (h0 : 0 ≤ x) (h1 : x ≤ 127) : 0 ≤ x * p128 j ∧ x * p128 j ≤ 127 * p128 j := by
  obtain ⟨p0, p1, p2, p3, p4, _⟩ := p128_vals
  rcases (by omega : j = 0 ∨ j = 1 ∨ j = 2 ∨ j = 3 ∨ j = 4) with rfl | rfl | rfl | rfl | rfl
  · rw [p0]; omega
  · rw [p1]; omega
  · rw [p2]; omega
  · rw [p3]; omega
  · rw [p4]; omega
def rvR (s : ByteArray) (a : Nat) : Nat → Nat → Int → Int × Int × Bool
  | 0, _, _ => (0, 0, false)
  | d + 1, j, n => if a + j < s.size then
      (if bt s ((a + j : Nat) : Int) < 128 then
        (if (bt s ((a + j : Nat) : Int) = 0 ∧ 0 < j) ∨ n + bt s ((a + j : Nat) : Int) * p128 j > 1000000000 then (0, 0, false)
         else (n + bt s ((a + j : Nat) : Int) * p128 j, ((a + j + 1 : Nat) : Int), true))
       else rvR s a d (j + 1) (n + (bt s ((a + j : Nat) : Int) % 128) * p128 j)) else (0, 0, false)
theorem impl_ReadVar_l0 (s : ByteArray) (a : Nat) (ha : a ≤ s.size) (hs : s.size ≤ 140737488351232) : ∀ (d j : Nat) (n : Int), j + d = 5 → 0 ≤ n → n < p128 j →
    Ev (fun k => impl_ReadVar.l0 k s (a : Int) n (j : Int)) (rvR s a d j n)
  | 0, j, n, hj, h0, h1 => by
    refine Ev.step (f := fun k => impl_ReadVar.j1 k s (a : Int) n (j : Int) false) (fun k => by simp only [impl_ReadVar.l0]; rw [if_neg (by omega)]) ?_
    exact Ev.step (fun k => by simp only [impl_ReadVar.j1]; rw [if_neg (by simp)]; rfl) (Ev.now _)
  | d + 1, j, n, hj, h0, h1 => by
    have hp := p128_le (j := j) (by omega)
    have hb := bt_range s ((a + j : Nat) : Int)
    have e1 : wrap64 ((a : Int) + (j : Int)) = ((a + j : Nat) : Int) := by unfold wrap64; omega
    refine Ev.step (f := fun k => impl_ReadVar.j1 k s (a : Int) n (j : Int) (decide (((a + j : Nat) : Int) < (s.size : Int)))) (fun k => by simp only [impl_ReadVar.l0]; rw [if_pos (by omega), e1]) ?_
    rw [rvR]
    by_cases c : a + j < s.size
    · have hm := p128_mul (j := j) (by omega) (bt s ((a + j : Nat) : Int) % 128) (by omega) (by omega)
      have eb : wrap64 (bt s ((a + j : Nat) : Int)) = bt s ((a + j : Nat) : Int) := by unfold wrap64; omega
      have e7 : 0 ≤ wrap64 (7 * (j : Int)) := by rw [b_w64 (by omega) (by omega)]; omega
      have en : wrap64 (n + bt s ((a + j : Nat) : Int) % 128 * p128 j) = n + bt s ((a + j : Nat) : Int) % 128 * p128 j := by unfold wrap64; omega
      rw [if_pos c]
      by_cases c1 : bt s ((a + j : Nat) : Int) < 128
      · have em : bt s ((a + j : Nat) : Int) % 128 = bt s ((a + j : Nat) : Int) := by omega
        rw [em] at hm en
        rw [if_pos c1]
        refine Ev.step (fun k => ?_) (Ev.now _)
        simp only [impl_ReadVar.j1]
        rw [if_pos (by simp; omega), e1, if_pos (by omega), if_pos (by omega), if_pos e7, eb, if_pos c1, b_tmod (by omega), p128_shl (by omega) _ (by omega) (by omega), em, en, show wrap64 (((a + j : Nat) : Int) + 1) = ((a + j + 1 : Nat) : Int) by unfold wrap64; omega]
        by_cases c2 : bt s ((a + j : Nat) : Int) = 0
        · rw [if_pos c2]
          by_cases c3 : (j : Int) > 0
          · rw [if_pos c3, if_pos (.inl ⟨c2, by omega⟩)]
          · rw [if_neg c3]
            by_cases c4 : n + bt s ((a + j : Nat) : Int) * p128 j > 1000000000
            · rw [if_pos c4, if_pos (.inr c4)]
            · rw [if_neg c4, if_neg (by rintro (h | h) <;> omega)]
        · rw [if_neg c2]
          by_cases c4 : n + bt s ((a + j : Nat) : Int) * p128 j > 1000000000
          · rw [if_pos c4, if_pos (.inr c4)]
          · rw [if_neg c4, if_neg (by rintro (h | h) <;> omega)]
      · rw [if_neg c1]
        have ih := impl_ReadVar_l0 s a ha hs d (j + 1) (n + (bt s ((a + j : Nat) : Int) % 128) * p128 j) (by omega) (by omega) (by rw [p128_succ]; omega)
        refine Ev.step (fun k => ?_) ih
        simp only [impl_ReadVar.j1]
        rw [if_pos (by simp; omega), e1, if_pos (by omega), if_pos (by omega), if_pos e7, eb, if_neg c1, b_tmod (by omega), p128_shl (by omega) _ (by omega) (by omega), en, show wrap64 ((j : Int) + 1) = ((j + 1 : Nat) : Int) by unfold wrap64; omega]
    · rw [if_neg c]
      exact Ev.step (fun k => by simp only [impl_ReadVar.j1]; rw [if_neg (by simp; omega)]) (Ev.now _)
def readVarR (s : ByteArray) (a : Int) : Int × Int × Bool := if 0 ≤ a ∧ a ≤ s.size then rvR s a.toNat 5 0 0 else (0, 0, false)
theorem impl_ReadVar_ev (s : ByteArray) (hs : s.size ≤ 140737488351232) (a : Int) : Ev (fun k => impl_ReadVar.f k s a) (readVarR s a) := by
  unfold readVarR
  by_cases h : 0 ≤ a ∧ a ≤ s.size
  · rw [if_pos h]
    obtain ⟨n, rfl⟩ := Int.eq_ofNat_of_zero_le h.1
    refine Ev.congr (fun k => ?_) (impl_ReadVar_l0 s n (by omega) hs 5 0 0 (by omega) (by omega) (by decide))
    simp only [impl_ReadVar.f, impl_in.f]
    rw [if_pos (by omega)]
    simp only [Option.bind_some]
    rw [if_pos (by simp; omega)]; rfl
  · rw [if_neg h]
    refine Ev.congr (fun k => ?_) (Ev.now _)
    simp only [impl_ReadVar.f, impl_in.f]
    by_cases c : a ≥ 0
    · rw [if_pos c]; simp only [Option.bind_some]; rw [if_neg (by simp; omega)]
    · rw [if_neg c]; simp
/-! the reference: the shortest form -/
def valL : List Int → Int
  | [] => 0
  | b :: r => b % 128 + 128 * valL r
theorem valL_snoc (b : Int) : ∀ l : List Int, valL (l ++ [b]) = valL l + b % 128 * p128 l.length
  | [] => by simp [valL, p128]
  | c :: l => by
    have ih := valL_snoc b l
    simp only [List.cons_append, valL, List.length_cons]
    rw [ih, p128_succ, Int.mul_add, ← Int.mul_assoc, Int.mul_comm 128 (b % 128), Int.mul_assoc]
    omega
def isVar : List Int → Prop
  | [] => False
  | [b] => 0 ≤ b ∧ b < 128
  | b :: c :: r => (128 ≤ b ∧ b ≤ 255) ∧ isVar (c :: r)
def lastV : List Int → Int
  | [] => 0
  | [b] => b
  | _ :: c :: r => lastV (c :: r)
theorem isVar_snoc (b : Int) (hb : 0 ≤ b ∧ b < 128) : ∀ l : List Int, (∀ x ∈ l, 128 ≤ x ∧ x ≤ 255) → isVar (l ++ [b])
  | [], _ => hb
  | [c], h => ⟨h c (by simp), hb⟩
  | c :: e :: l, h => ⟨h c (by simp), isVar_snoc b hb (e :: l) (fun x hx => h x (by simp at hx ⊢; right; exact hx))⟩
theorem lastV_snoc (b : Int) : ∀ l : List Int, lastV (l ++ [b]) = b
  | [] => rfl
  | [c] => rfl
  | c :: e :: l => lastV_snoc b (e :: l)
theorem valL_nonneg : ∀ l : List Int, 0 ≤ valL l
  | [] => by simp [valL]
  | b :: r => by have := valL_nonneg r; simp only [valL]; omega
theorem valL_last : ∀ l : List Int, isVar l → (valL l = 0 → lastV l = 0)
  | [b], h, e => by simp only [isVar] at h; simp only [valL] at e; simp only [lastV]; omega
  | b :: c :: r, h, e => by
    have hn := valL_nonneg (c :: r)
    have ih := valL_last (c :: r) h.2
    rw [valL] at e
    exact ih (by omega)
theorem isVar_ne : ∀ {l : List Int}, isVar l → l ≠ []
  | [], h => h.elim
  | _ :: _, _ => by simp
theorem varL_valL : ∀ (d : Nat) (l : List Int), isVar l → l.length ≤ d + 1 → (varL d (valL l).toNat = l ↔ (l.length = 1 ∨ lastV l ≠ 0))
  | d, [b], h, hl => by
    simp only [isVar] at h
    have e : (valL [b]).toNat = b.toNat := by simp only [valL]; omega
    rw [e]
    constructor
    · intro _; exact .inl rfl
    · intro _
      cases d with
      | zero => simp only [varL]; congr 1; omega
      | succ d => rw [varL, if_neg (by omega)]; congr 1; omega
  | 0, b :: c :: r, h, hl => by simp at hl
  | d + 1, b :: c :: r, h, hl => by
    have hn := valL_nonneg (c :: r)
    have hb := h.1
    have ih := varL_valL d (c :: r) h.2 (by simp at hl ⊢; omega)
    have hz := valL_last (c :: r) h.2
    have ev : valL (b :: c :: r) = b % 128 + 128 * valL (c :: r) := rfl
    have el : lastV (b :: c :: r) = lastV (c :: r) := rfl
    rw [ev, el]
    by_cases c0 : valL (c :: r) = 0
    · rw [varL, if_neg (by omega)]
      constructor
      · intro he
        have := congrArg List.length he
        simp at this
      · rintro (h1 | h1)
        · simp at h1
        · exact absurd (hz c0) h1
    · rw [varL, if_pos (by omega), show ((128 + (b % 128 + 128 * valL (c :: r)).toNat % 128 : Nat) : Int) = b by omega, show (b % 128 + 128 * valL (c :: r)).toNat / 128 = (valL (c :: r)).toNat by omega]
      constructor
      · intro he
        right
        simp only [List.cons.injEq, true_and] at he
        rcases ih.1 he with h1 | h1
        · cases r with
          | nil =>
            have hc := h.2
            simp only [isVar] at hc
            simp only [lastV, valL] at c0 ⊢
            omega
          | cons e r => simp at h1
        · exact h1
      · intro h1
        have : lastV (c :: r) ≠ 0 := by
          rcases h1 with h1 | h1
          · simp at h1
          · exact h1
        rw [ih.2 (.inr this)]
theorem varL_range : ∀ (d n : Nat), n < 128 ^ (d + 1) → ∀ x ∈ varL d n, 0 ≤ x ∧ x ≤ 255
  | 0, n, h, x, hx => by simp only [varL, List.mem_singleton] at hx; omega
  | d + 1, n, h, x, hx => by
    rw [varL] at hx
    by_cases c : 127 < n
    · rw [if_pos c] at hx
      rcases List.mem_cons.1 hx with e | hx
      · omega
      · exact varL_range d (n / 128) (by rw [Nat.div_lt_iff_lt_mul (by decide), ← Nat.pow_succ]; exact h) x hx
    · rw [if_neg c] at hx
      simp only [List.mem_singleton] at hx
      omega
theorem seg_range (s : ByteArray) (a m : Nat) : ∀ x ∈ seg s a m, 0 ≤ x ∧ x ≤ 255 := by
  intro x hx
  simp only [seg, List.mem_map] at hx
  obtain ⟨t, _, rfl⟩ := hx
  exact bt_range s _
theorem shortest (s : ByteArray) (a j : Nat) (n : Int) (hn : n = valL (seg s a j)) (hc : ∀ x ∈ seg s a j, 128 ≤ x ∧ x ≤ 255) (hj : j ≤ 4) (hs : a + j < s.size) (hb : bt s ((a + j : Nat) : Int) < 128) :
    (strOfNums (varL 9 (n + bt s ((a + j : Nat) : Int) * p128 j).toNat)).toList = (s.extract a (a + j + 1)).toList ↔ ¬(bt s ((a + j : Nat) : Int) = 0 ∧ 0 < j) := by
  have hr := bt_range s ((a + j : Nat) : Int)
  have hv : n + bt s ((a + j : Nat) : Int) * p128 j = valL (seg s a (j + 1)) := by
    rw [seg_succ, valL_snoc, seg_length, hn, show bt s ((a + j : Nat) : Int) % 128 = bt s ((a + j : Nat) : Int) by omega]
  have hi : isVar (seg s a (j + 1)) := by rw [seg_succ]; exact isVar_snoc _ ⟨hr.1, hb⟩ _ hc
  have hl : lastV (seg s a (j + 1)) = bt s ((a + j : Nat) : Int) := by rw [seg_succ]; exact lastV_snoc _ _
  have hlen := seg_length s a (j + 1)
  have hw := varL_valL 9 (seg s a (j + 1)) hi (by omega)
  have hb' : (valL (seg s a (j + 1))).toNat < 128 ^ 10 := by
    have hnn := valL_nonneg (seg s a (j + 1))
    have hm := p128_mul hj (bt s ((a + j : Nat) : Int)) hr.1 (by omega)
    have hp := p128_le hj
    have : ∀ l : List Int, valL l < p128 l.length := by
      intro l
      induction l with
      | nil => decide
      | cons b r ih => rw [valL, List.length_cons, p128_succ]; omega
    have h1 := this (seg s a j)
    rw [seg_length] at h1
    rw [← hv]; omega
  rw [hv, show a + j + 1 = a + (j + 1) by omega, extract_seg s a (j + 1) (by omega), Lib.strOfNums_toList]
  constructor
  · intro he
    have := hw.1 (bytesOf_inj (varL_range 9 _ hb') (seg_range s a _) he)
    rw [hl, hlen] at this
    omega
  · intro he
    rw [hw.2 (by rw [hl, hlen]; omega)]
theorem spec_ReadVar_l0 (s : ByteArray) (a : Nat) (ha : a ≤ s.size) (hs : s.size ≤ 140737488351232) : ∀ (d j : Nat) (n : Int), j + d = 5 → n = valL (seg s a j) → (∀ x ∈ seg s a j, 128 ≤ x ∧ x ≤ 255) → 0 ≤ n → n < p128 j →
    Ev (fun k => spec_ReadVar.l0 k s (a : Int) n (p128 j) ((a + j : Nat) : Int)) (rvR s a d j n)
  | 0, j, n, hj, hn, hc, h0, h1 => by
    refine Ev.step (f := fun k => spec_ReadVar.j1 k s (a : Int) n (p128 j) ((a + j : Nat) : Int) false) (fun k => ?_) ?_
    · simp only [spec_ReadVar.l0]
      split
      · rw [show decide (((a + j : Nat) : Int) < wrap64 ((a : Int) + 5)) = false by rw [decide_eq_false_iff_not]; unfold wrap64; omega]
      · rfl
    · exact Ev.step (fun k => by simp only [spec_ReadVar.j1]; rw [if_neg (by simp)]; rfl) (Ev.now _)
  | d + 1, j, n, hj, hn, hc, h0, h1 => by
    have hp := p128_le (j := j) (by omega)
    have hb := bt_range s ((a + j : Nat) : Int)
    rw [rvR]
    by_cases c : a + j < s.size
    · have q0 : (0 : Int) ≤ ((a + j : Nat) : Int) := by omega
      have q1 : ((a + j : Nat) : Int) < (s.size : Int) := by omega
      have q2 : (0 : Int) ≤ (a : Int) := by omega
      have q3 : (a : Int) ≤ ((a + j + 1 : Nat) : Int) := by omega
      have q4 : ((a + j + 1 : Nat) : Int) ≤ (s.size : Int) := by omega
      refine Ev.step (f := fun k => spec_ReadVar.j1 k s (a : Int) n (p128 j) ((a + j : Nat) : Int) true) (fun k => ?_) ?_
      · simp only [spec_ReadVar.l0]
        rw [if_pos (by omega), show decide (((a + j : Nat) : Int) < wrap64 ((a : Int) + 5)) = true by rw [decide_eq_true_iff]; unfold wrap64; omega]
      have hm := p128_mul (j := j) (by omega) (bt s ((a + j : Nat) : Int) % 128) (by omega) (by omega)
      have eb : wrap64 (bt s ((a + j : Nat) : Int)) = bt s ((a + j : Nat) : Int) := by unfold wrap64; omega
      have em0 : wrap64 (bt s ((a + j : Nat) : Int) % 128 * p128 j) = bt s ((a + j : Nat) : Int) % 128 * p128 j := by unfold wrap64; omega
      have en : wrap64 (n + bt s ((a + j : Nat) : Int) % 128 * p128 j) = n + bt s ((a + j : Nat) : Int) % 128 * p128 j := by unfold wrap64; omega
      have ei : wrap64 (((a + j : Nat) : Int) + 1) = ((a + j + 1 : Nat) : Int) := by unfold wrap64; omega
      rw [if_pos c]
      by_cases c1 : bt s ((a + j : Nat) : Int) < 128
      · have em : bt s ((a + j : Nat) : Int) % 128 = bt s ((a + j : Nat) : Int) := by omega
        rw [em] at hm en em0
        rw [if_pos c1]
        have hsh := shortest s a j n hn hc (by omega) c c1
        by_cases c4 : n + bt s ((a + j : Nat) : Int) * p128 j > 1000000000
        · rw [if_pos (.inr c4)]
          refine Ev.step (fun k => ?_) (Ev.now _)
          simp only [spec_ReadVar.j1, if_true]
          rw [if_pos q0, if_pos q1, if_pos c1, eb, b_tmod hb.1, em, em0, en, if_pos c4]
        · have hv := spec_l01Var_ev (n + bt s ((a + j : Nat) : Int) * p128 j).toNat (by omega)
          rw [Int.toNat_of_nonneg (by omega)] at hv
          refine ev_s1 hv (fun k e => ?_)
          simp only [spec_ReadVar.j1, if_true]
          rw [if_pos q0, if_pos q1, if_pos c1, eb, b_tmod hb.1, em, em0, en, if_neg c4, ei, e, Option.bind_some, if_pos q2, if_pos q3, if_pos q4, Int.toNat_natCast, Int.toNat_natCast]
          by_cases c5 : bt s ((a + j : Nat) : Int) = 0 ∧ 0 < j
          · rw [if_neg (by rw [hsh]; exact fun h => h c5), if_pos (.inl c5)]
          · rw [if_pos (hsh.2 c5), if_neg (fun h => h.elim c5 c4)]
      · rw [if_neg c1]
        have hn' : n + (bt s ((a + j : Nat) : Int) % 128) * p128 j = valL (seg s a (j + 1)) := by rw [seg_succ, valL_snoc, seg_length, hn]
        have ih := spec_ReadVar_l0 s a ha hs d (j + 1) (n + (bt s ((a + j : Nat) : Int) % 128) * p128 j) (by omega) hn'
          (by rw [seg_succ]; intro x hx; rcases List.mem_append.1 hx with hx | hx; exact hc x hx; simp only [List.mem_singleton] at hx; omega) (by omega) (by rw [p128_succ]; omega)
        rw [p128_succ, show a + (j + 1) = a + j + 1 by omega] at ih
        have ew : wrap64 (p128 j * 128) = 128 * p128 j := by unfold wrap64; omega
        refine ev_s1 ih (fun k e => ?_)
        simp only [spec_ReadVar.j1, if_true]
        rw [if_pos q0, if_pos q1, if_neg c1, eb, b_tmod hb.1, em0, en, ei, ew]
        exact e
    · rw [if_neg c]
      refine Ev.step (f := fun k => spec_ReadVar.j1 k s (a : Int) n (p128 j) ((a + j : Nat) : Int) false) (fun k => by simp only [spec_ReadVar.l0]; rw [if_neg (by omega)]) ?_
      exact Ev.step (fun k => by simp only [spec_ReadVar.j1]; rw [if_neg (by simp)]) (Ev.now _)
theorem spec_ReadVar_ev (s : ByteArray) (hs : s.size ≤ 140737488351232) (a : Int) : Ev (fun k => spec_ReadVar.f k s a) (readVarR s a) := by
  unfold readVarR
  by_cases h : 0 ≤ a ∧ a ≤ s.size
  · rw [if_pos h]
    obtain ⟨n, rfl⟩ := Int.eq_ofNat_of_zero_le h.1
    refine Ev.congr (fun k => ?_) (spec_ReadVar_l0 s n (by omega) hs 5 0 0 (by omega) rfl (by simp [seg]) (by omega) (by decide))
    simp only [spec_ReadVar.f, spec_l01In.f]
    rw [if_pos (by omega)]
    simp only [Option.bind_some]
    rw [if_pos (by simp; omega)]; rfl
  · rw [if_neg h]
    refine Ev.congr (fun k => ?_) (Ev.now _)
    simp only [spec_ReadVar.f, spec_l01In.f]
    by_cases c : a ≥ 0
    · rw [if_pos c]; simp only [Option.bind_some]; rw [if_neg (by simp; omega)]
    · rw [if_neg c]; simp

theorem rvR_ok (s : ByteArray) (a : Nat) : ∀ (d j : Nat) (n : Int), j + d = 5 → 0 ≤ n → (rvR s a d j n).2.2 = true → 0 ≤ (rvR s a d j n).1 ∧ 0 ≤ (rvR s a d j n).2.1 ∧ (rvR s a d j n).2.1 ≤ s.size
  | 0, j, n, hj, h0, h => by simp [rvR] at h
  | d + 1, j, n, hj, h0, h => by
    have hb := bt_range s ((a + j : Nat) : Int)
    have hp := p128_le (j := j) (by omega)
    rw [rvR] at h ⊢
    by_cases c : a + j < s.size
    · rw [if_pos c] at h ⊢
      by_cases c1 : bt s ((a + j : Nat) : Int) < 128
      · rw [if_pos c1] at h ⊢
        have hm := p128_mul (j := j) (by omega) (bt s ((a + j : Nat) : Int)) hb.1 (by omega)
        split at h
        · simp at h
        · rename_i c2
          rw [if_neg c2]
          exact ⟨by show 0 ≤ n + _; omega, by show (0 : Int) ≤ ((a + j + 1 : Nat) : Int); omega, by show ((a + j + 1 : Nat) : Int) ≤ _; omega⟩
      · rw [if_neg c1] at h ⊢
        have hm := p128_mul (j := j) (by omega) (bt s ((a + j : Nat) : Int) % 128) (by omega) (by omega)
        exact rvR_ok s a d (j + 1) _ (by omega) (by omega) h
    · rw [if_neg c] at h
      simp at h
theorem readVarR_ok (s : ByteArray) (a : Int) (h : (readVarR s a).2.2 = true) : 0 ≤ (readVarR s a).1 ∧ 0 ≤ (readVarR s a).2.1 ∧ (readVarR s a).2.1 ≤ s.size := by
  unfold readVarR at h ⊢
  split at h
  · rename_i c
    rw [if_pos c]
    exact rvR_ok s _ 5 0 0 (by omega) (by omega) h
  · simp at h
def readShortR (s : ByteArray) (a : Int) : ByteArray × Int × Bool :=
  if (readVarR s a).2.2 = true ∧ (readVarR s a).1 ≤ 20000 ∧ (readVarR s a).1 ≤ (s.size : Int) - (readVarR s a).2.1 then
    (s.extract (readVarR s a).2.1.toNat ((readVarR s a).2.1 + (readVarR s a).1).toNat, (readVarR s a).2.1 + (readVarR s a).1, true)
  else ((⟨#[]⟩ : ByteArray), 0, false)
theorem spec_ReadShort_ev (s : ByteArray) (hs : s.size ≤ 140737488351232) (a : Int) : Ev (fun k => spec_ReadShort.f k s a) (readShortR s a) := by
  refine ev_a1 (spec_ReadVar_ev s hs a) (fun k e => ?_)
  simp only [spec_ReadShort.f]
  rw [e, Option.bind_some]
  unfold readShortR
  by_cases c : (readVarR s a).2.2 = true
  · obtain ⟨h1, h2, h3⟩ := readVarR_ok s a c
    rw [if_pos c]
    by_cases c1 : (readVarR s a).1 > 20000
    · rw [if_pos c1, if_neg (fun h => absurd h.2.1 (by omega))]
    · have q1 : (readVarR s a).2.1 ≤ (readVarR s a).2.1 + (readVarR s a).1 := by omega
      have e1 : wrap64 ((s.size : Int) - (readVarR s a).2.1) = (s.size : Int) - (readVarR s a).2.1 := b_w64 (by omega) (by omega)
      have e2 : wrap64 ((readVarR s a).2.1 + (readVarR s a).1) = (readVarR s a).2.1 + (readVarR s a).1 := b_w64 (by omega) (by omega)
      rw [if_neg c1, e1, e2]
      by_cases c2 : (readVarR s a).1 > (s.size : Int) - (readVarR s a).2.1
      · rw [if_pos c2, if_neg (fun h => absurd h.2.2 (Int.not_le.2 c2))]
      · have q2 : (readVarR s a).2.1 + (readVarR s a).1 ≤ (s.size : Int) := by clear e1 e2; omega
        rw [if_neg c2, if_pos h2, if_pos q1, if_pos q2, if_pos ⟨c, Int.not_lt.1 c1, Int.not_lt.1 c2⟩]
  · rw [if_neg c, if_neg (fun h => c h.1)]
theorem impl_ReadShort_ev (s : ByteArray) (hs : s.size ≤ 140737488351232) (a : Int) : Ev (fun k => impl_ReadShort.f k s a) (readShortR s a) := by
  refine ev_a1 (impl_ReadVar_ev s hs a) (fun k e => ?_)
  simp only [impl_ReadShort.f]
  rw [e, Option.bind_some]
  unfold readShortR
  by_cases c : (readVarR s a).2.2 = true
  · obtain ⟨h1, h2, h3⟩ := readVarR_ok s a c
    rw [if_pos c]
    by_cases c1 : (readVarR s a).1 > 20000
    · rw [if_pos c1, if_neg (fun h => absurd h.2.1 (by omega))]
    · have q1 : (readVarR s a).2.1 ≤ (readVarR s a).2.1 + (readVarR s a).1 := by omega
      have e1 : wrap64 ((s.size : Int) - (readVarR s a).2.1) = (s.size : Int) - (readVarR s a).2.1 := b_w64 (by omega) (by omega)
      have e2 : wrap64 ((readVarR s a).2.1 + (readVarR s a).1) = (readVarR s a).2.1 + (readVarR s a).1 := b_w64 (by omega) (by omega)
      rw [if_neg c1, e1, e2]
      by_cases c2 : (readVarR s a).1 > (s.size : Int) - (readVarR s a).2.1
      · rw [if_pos c2, if_neg (fun h => absurd h.2.2 (Int.not_le.2 c2))]
      · have q2 : (readVarR s a).2.1 + (readVarR s a).1 ≤ (s.size : Int) := by clear e1 e2; omega
        rw [if_neg c2, if_pos h2, if_pos q1, if_pos q2, if_pos ⟨c, Int.not_lt.1 c1, Int.not_lt.1 c2⟩]
  · rw [if_neg c, if_neg (fun h => c h.1)]

theorem FnExactReadShort : laws_FnExactReadShort.Pure := by
  intro a0 a1 hs h0
  obtain ⟨k, e1, e2⟩ := b_two (spec_ReadShort_ev a0 hs a1) (impl_ReadShort_ev a0 hs a1)
  refine ⟨k, ?_⟩
  simp only [laws_FnExactReadShort.f]
  split
  · rfl
  · rw [e1]; simp only [Option.bind_some]; rw [e2]; simp
end Go.Proofs.Ytaoelobgpilmjaa.Pure
