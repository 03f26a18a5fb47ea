/- Drawn signs come back from their texts, with any blanks between. No condition beside what the statement itself asks. -/
import Derived.Test.YtcoapbnbakmkoaaDoorPFnSignsx7
import Derived.Laws.BitsLemmas
import Derived.Lib.Join
import Derived.Lib.LazyBuf
import Derived.Lib.Bytes
import Derived.Lib.ItoaLen
import Derived.Lib.ItoaNum
set_option linter.unusedVariables false
set_option linter.unusedSimpArgs false
namespace Go.Proofs.YtcoapbnbakmkoaaDoor.Pure
open Go.RowKit Go.Proofs.YtcoapbnbakmkoaaDoor.PFnSigns Go.Proofs.YtcoapbnbakmkoaaDoorW.PrintWords Go.Proofs.YtcoapbnbakmkoaaDoorW.PrintLast

theorem b_w64 {x : Int} (h0 : -9223372036854775808 ≤ x) (h1 : x ≤ 9223372036854775807) : wrap64 x = x := by unfold wrap64; omega
theorem b_i64 {x : Int} (h : (Lit.int .i64 x).wf = true) : -9223372036854775808 ≤ x ∧ x ≤ 9223372036854775807 := by
  simp only [Lit.wf, Bool.and_eq_true, decide_eq_true_eq] at h
  have h1 : IntKind.i64.min = -9223372036854775808 := by decide
  have h2 : IntKind.i64.max = 9223372036854775807 := by decide
  omega
theorem b_u32 {x : Int} (h : (Lit.int .u32 x).wf = true) : 0 ≤ x ∧ x < 4294967296 := by
  simp only [Lit.wf, Bool.and_eq_true, decide_eq_true_eq] at h
  have h1 : IntKind.u32.min = 0 := by decide
  have h2 : IntKind.u32.max = 4294967295 := by decide
  omega
theorem b_tmod {x y : Int} (h : 0 ≤ x) : Int.tmod x y = x % y := Int.tmod_eq_emod_of_nonneg h
theorem b_tdiv {x y : Int} (h : 0 ≤ x) : Int.tdiv x y = x / y := Int.tdiv_eq_ediv_of_nonneg h
theorem b_ev_eq {α : Type} {g : Nat → Option α} {r r' : α} (h : Ev g r) (e : r = r') : Ev g r' := e ▸ h
theorem b_two {α β : Type} {g : Nat → Option α} {f : Nat → Option β} {a : α} {b : β} (h : Ev g a) (h' : Ev f b) : ∃ k, g k = some a ∧ f k = some b := by
  obtain ⟨K, h⟩ := h
  obtain ⟨K', h'⟩ := h'
  exact ⟨max K K', h _ (by omega), h' _ (by omega)⟩
theorem b_list_take_succ {α : Type} (l : List α) (i : Nat) (h : i < l.length) : l.take (i + 1) = l.take i ++ [l[i]] := by
  rw [List.take_succ_eq_append_getElem h]
theorem ev_a0 {α : Type} {F : Nat → Option α} {r : α} (H : ∀ k, F k = some r) : Ev F r := ⟨0, fun k _ => H k⟩
theorem ev_s0 {α : Type} {F : Nat → Option α} {r : α} (H : ∀ k, F (k + 1) = some r) : Ev F r := by
  refine ⟨1, fun k hk => ?_⟩
  obtain ⟨m, rfl⟩ : ∃ m, k = m + 1 := ⟨k - 1, by omega⟩
  exact H m
theorem ev_a1 {α β : Type} {F : Nat → Option α} {r : α} {g : Nat → Option β} {a : β} (ha : Ev g a) (H : ∀ k, g k = some a → F k = some r) : Ev F r := by
  obtain ⟨K, ha⟩ := ha
  exact ⟨K, fun k hk => H k (ha k hk)⟩
theorem ev_s1 {α β : Type} {F : Nat → Option α} {r : α} {g : Nat → Option β} {a : β} (ha : Ev g a) (H : ∀ k, g k = some a → F (k + 1) = some r) : Ev F r := by
  obtain ⟨K, ha⟩ := ha
  refine ⟨K + 1, fun k hk => ?_⟩
  obtain ⟨m, rfl⟩ : ∃ m, k = m + 1 := ⟨k - 1, by omega⟩
  exact H m (ha m (by omega))
theorem ev_and {α β : Type} {g : Nat → Option α} {f : Nat → Option β} {a : α} {b : β} (ha : Ev g a) (hb : Ev f b) : ∃ K, ∀ k, K ≤ k → g k = some a ∧ f k = some b := by
  obtain ⟨K, ha⟩ := ha
  obtain ⟨K', hb⟩ := hb
  exact ⟨max K K', fun k hk => ⟨ha k (by omega), hb k (by omega)⟩⟩
theorem ev_a2 {α β γ : Type} {F : Nat → Option α} {r : α} {g : Nat → Option β} {a : β} {f : Nat → Option γ} {b : γ} (ha : Ev g a) (hb : Ev f b) (H : ∀ k, g k = some a → f k = some b → F k = some r) : Ev F r := by
  obtain ⟨K, h⟩ := ev_and ha hb
  exact ⟨K, fun k hk => H k (h k hk).1 (h k hk).2⟩
theorem ev_s2 {α β γ : Type} {F : Nat → Option α} {r : α} {g : Nat → Option β} {a : β} {f : Nat → Option γ} {b : γ} (ha : Ev g a) (hb : Ev f b) (H : ∀ k, g k = some a → f k = some b → F (k + 1) = some r) : Ev F r := by
  obtain ⟨K, h⟩ := ev_and ha hb
  refine ⟨K + 1, fun k hk => ?_⟩
  obtain ⟨m, rfl⟩ : ∃ m, k = m + 1 := ⟨k - 1, by omega⟩
  exact H m (h m (by omega)).1 (h m (by omega)).2
theorem ev_a3 {α β γ δ : Type} {F : Nat → Option α} {r : α} {g : Nat → Option β} {a : β} {f : Nat → Option γ} {b : γ} {e : Nat → Option δ} {c : δ} (ha : Ev g a) (hb : Ev f b) (hc : Ev e c) (H : ∀ k, g k = some a → f k = some b → e k = some c → F k = some r) : Ev F r := by
  obtain ⟨K, h⟩ := ev_and ha hb
  obtain ⟨K', h'⟩ := hc
  exact ⟨max K K', fun k hk => H k (h k (by omega)).1 (h k (by omega)).2 (h' k (by omega))⟩
theorem ev_s3 {α β γ δ : Type} {F : Nat → Option α} {r : α} {g : Nat → Option β} {a : β} {f : Nat → Option γ} {b : γ} {e : Nat → Option δ} {c : δ} (ha : Ev g a) (hb : Ev f b) (hc : Ev e c) (H : ∀ k, g k = some a → f k = some b → e k = some c → F (k + 1) = some r) : Ev F r := by
  obtain ⟨K, h⟩ := ev_and ha hb
  obtain ⟨K', h'⟩ := hc
  refine ⟨max K K' + 1, fun k hk => ?_⟩
  obtain ⟨m, rfl⟩ : ∃ m, k = m + 1 := ⟨k - 1, by omega⟩
  exact H m (h m (by omega)).1 (h m (by omega)).2 (h' m (by omega))
def evp {α β : Type} (x : Option α) (y : Option β) : Option (α × β) := x.bind fun a => y.bind fun b => some (a, b)
theorem ev_pair {α β : Type} {g : Nat → Option α} {f : Nat → Option β} {a : α} {b : β} (ha : Ev g a) (hb : Ev f b) : Ev (fun k => evp (g k) (f k)) (a, b) :=
  ev_a2 ha hb (fun k e e2 => by simp [evp, e, e2])
theorem ev_pair_l {α β : Type} {x : Option α} {y : Option β} {a : α} {b : β} (h : evp x y = some (a, b)) : x = some a := by
  unfold evp at h
  cases x with
  | none => simp at h
  | some x => cases y with
    | none => simp at h
    | some y => simp at h; simp [h.1]
theorem ev_pair_r {α β : Type} {x : Option α} {y : Option β} {a : α} {b : β} (h : evp x y = some (a, b)) : y = some b := by
  unfold evp at h
  cases x with
  | none => simp at h
  | some x => cases y with
    | none => simp at h
    | some y => simp at h; simp [h.2]

theorem i64_and255 (n : Int) : Go.bits .and .i64 n 255 = n % 256 := by
  have h255 : (BitVec.ofInt 64 255).toNat = 2 ^ 8 - 1 := by decide
  have key : (BitVec.ofInt 64 n &&& BitVec.ofInt 64 255).toNat = (n % ((2 ^ 64 : Nat) : Int)).toNat % 2 ^ 8 := by
    rw [BitVec.toNat_and, BitVec.toNat_ofInt, h255, Nat.and_two_pow_sub_one_eq_mod]
  show IntKind.i64.wrap ((BitVec.ofInt 64 n &&& BitVec.ofInt 64 255).toNat : Nat) = n % 256
  rw [key, IntKind.wrap_i64]
  omega
/-- a tape is read at a place within it -/
def OkAt (s : List Int) (i : Int) : Prop := 0 ≤ i ∧ i ≤ (s.length : Int)
theorem byte_is (s : List Int) (hs : s.length ≤ 140737488355328) (i g : Int) (h : OkAt s i) :
    ∃ v i' g', spec_l01Byte.f s i g = some (v, i', g') ∧ 0 ≤ v ∧ v ≤ 255 ∧ OkAt s i' := by
  unfold OkAt at *
  rw [spec_l01Byte.f]
  by_cases c : i < (s.length : Int)
  · have q : 0 ≤ i := h.1
    rw [if_pos c, if_pos q]
    refine ⟨_, _, _, rfl, ?_, ?_, ?_⟩
    · rw [i64_and255]; exact Int.emod_nonneg _ (by decide)
    · rw [i64_and255]; have := Int.emod_lt_of_pos (wrap64 (Go.bits .and .i64 (Go.bits .xor .i64 ((wrap64 ((wrap64 (g * 6364136223846793005)) + 1442695040888963407)) / 8589934592) ((wrap64 ((wrap64 (g * 6364136223846793005)) + 1442695040888963407)) / 35184372088832)) 255 + (wrap64 (rd s i)))) (show (0 : Int) < 256 by decide); clear c q h; generalize (_ % 256 : Int) = z at this ⊢; omega
    · have e : wrap64 (i + 1) = i + 1 := b_w64 (by omega) (by omega)
      rw [e]; omega
  · rw [if_neg c]
    refine ⟨_, _, _, rfl, ?_, ?_, h⟩
    · rw [i64_and255]; exact Int.emod_nonneg _ (by decide)
    · rw [i64_and255]; exact Int.le_of_lt_add_one (Int.emod_lt_of_pos _ (by decide))
theorem below_is (s : List Int) (hs : s.length ≤ 140737488355328) (i g n : Int) (hn : 0 < n) (h : OkAt s i) :
    ∃ v i' g', spec_l01Below.f s i g n = some (v, i', g') ∧ 0 ≤ v ∧ v < n ∧ OkAt s i' := by
  rw [spec_l01Below.f, if_neg (by omega)]
  by_cases c : n ≤ 256
  · obtain ⟨v, i1, g1, e, v0, v1, h1⟩ := byte_is s hs i g h
    rw [if_pos c, e, Option.bind_some, if_neg (by omega)]
    refine ⟨_, _, _, rfl, ?_, ?_, h1⟩
    · rw [b_tmod v0]; exact Int.emod_nonneg _ (by omega)
    · rw [b_tmod v0]; exact Int.emod_lt_of_pos _ hn
  · obtain ⟨v, i1, g1, e, v0, v1, h1⟩ := byte_is s hs i g h
    obtain ⟨u, i2, g2, e2, u0, u1, h2⟩ := byte_is s hs i1 g1 h1
    obtain ⟨x, i3, g3, e3, x0, x1, h3⟩ := byte_is s hs i2 g2 h2
    obtain ⟨y, i4, g4, e4, y0, y1, h4⟩ := byte_is s hs i3 g3 h3
    rw [if_neg c, e, Option.bind_some, e2, Option.bind_some, e3, Option.bind_some, e4, Option.bind_some, if_neg (by omega)]
    have w0 : 0 ≤ wrap64 ((wrap64 ((wrap64 ((wrap64 (v * 16777216)) + (wrap64 (u * 65536)))) + (wrap64 (x * 256)))) + y) := by
      clear e e2 e3 e4 h h1 h2 h3 h4 hn c
      unfold wrap64; omega
    refine ⟨_, _, _, rfl, ?_, ?_, h4⟩
    · simp only; rw [b_tmod w0]; exact Int.emod_nonneg _ (by omega)
    · simp only; rw [b_tmod w0]; exact Int.emod_lt_of_pos _ hn
theorem new_l0 (l : List Int) (hs : l.length ≤ 140737488355328) : ∀ (d i : Nat) (x : Int), 4000 ≤ i + d → ∃ g, Ev (fun k => spec_l01New.l0 k l x (i : Int)) (l, 0, g)
  | 0, i, x, h => by
    refine ⟨x, ev_s0 fun k => ?_⟩
    rw [spec_l01New.l0]
    by_cases c : (i : Int) < (l.length : Int)
    · rw [if_pos c, if_neg (by omega)]
    · rw [if_neg c]
  | d + 1, i, x, h => by
    by_cases c : (i : Int) < (l.length : Int)
    · by_cases c2 : (i : Int) < 4000
      · obtain ⟨g, e⟩ := new_l0 l hs d (i + 1) (Go.bits .and .i64 (wrap64 ((wrap64 ((wrap64 (x * 131)) + (wrap64 (rd l (i : Int))))) + 7)) 1073741823) (by omega)
        refine ⟨g, ev_s1 e fun k ek => ?_⟩
        have q : (0 : Int) ≤ (i : Int) := by omega
        have w : wrap64 ((i : Int) + 1) = ((i + 1 : Nat) : Int) := by unfold wrap64; omega
        rw [spec_l01New.l0, if_pos c, if_pos c2, if_pos q, w]
        exact ek
      · refine ⟨x, ev_s0 fun k => ?_⟩
        rw [spec_l01New.l0, if_pos c, if_neg c2]
    · refine ⟨x, ev_s0 fun k => ?_⟩
      rw [spec_l01New.l0, if_neg c]
theorem new_is (l : List Int) (hs : l.length ≤ 140737488355328) : ∃ g, Ev (fun k => spec_l01New.f k l) (l, 0, g) := new_l0 l hs 4000 0 _ (by omega)

theorem long_l0 (a c : Int) (ha : a ≤ 100000) : ∀ (d i : Nat) (x : List Int), (i + d : Int) = a → (x.length : Int) = a → ∃ r, Ev (fun k => spec_l01Long.l0 k a c x (i : Int)) r
  | 0, i, x, h, hx => ⟨strOfNums x, ev_s0 fun k => by rw [spec_l01Long.l0, if_neg (by omega)]⟩
  | d + 1, i, x, h, hx => by
    obtain ⟨r, e⟩ := long_l0 a c ha d (i + 1) (x.set i c) (by omega) (by rw [List.length_set]; exact hx)
    refine ⟨r, ev_s1 e fun k ek => ?_⟩
    have q : (i : Int) < a := by omega
    have q2 : (0 : Int) ≤ (i : Int) := by omega
    have q3 : (i : Int) < (x.length : Int) := by omega
    have w : wrap64 ((i : Int) + 1) = ((i + 1 : Nat) : Int) := by clear ek e; unfold wrap64; omega
    rw [spec_l01Long.l0, if_pos q, if_pos q2, if_pos q3, w, Int.toNat_natCast]
    exact ek
theorem long_is (a c : Int) (h0 : 0 ≤ a) (ha : a ≤ 100000) : ∃ r, Ev (fun k => spec_l01Long.f k a c) r := by
  have w : (((a : Int).toNat : Nat) : Int) = a := Int.toNat_of_nonneg h0
  obtain ⟨r, e⟩ := long_l0 a c ha a.toNat 0 (List.replicate a.toNat 0) (by omega) (by rw [List.length_replicate]; exact w)
  exact ⟨r, ev_a1 e fun k ek => by rw [spec_l01Long.f, if_pos h0, if_pos (by omega)]; exact ek⟩

/-- the numbers of m bytes of s from place a on -/
def seg (s : ByteArray) (a m : Nat) : List Int := (List.range m).map fun t => bt s ((a + t : Nat) : Int)
theorem seg_zero (s : ByteArray) (a : Nat) : seg s a 0 = [] := rfl
theorem seg_succ (s : ByteArray) (a m : Nat) : seg s a (m + 1) = seg s a m ++ [bt s ((a + m : Nat) : Int)] := by
  simp [seg, List.range_succ]
theorem seg_length (s : ByteArray) (a m : Nat) : (seg s a m).length = m := by simp [seg]
theorem bt_nat (s : ByteArray) (i : Nat) (h : i < s.size) : bt s (i : Int) = ((s.data.toList[i]'(by simpa using h)).toNat : Int) := by
  have e := bt_at s (i : Int) (by simpa using h)
  rw [← e]
  rfl
theorem extract_seg (s : ByteArray) (a : Nat) : ∀ m, a + m ≤ s.size → (s.extract a (a + m)).toList = Lib.bytesOf (seg s a m)
  | 0, h => by rw [Lib.extract_toList]; simp [seg, Lib.bytesOf]
  | m + 1, h => by
    have ih := extract_seg s a m (by omega)
    rw [Lib.extract_toList, show a + m - a = m by omega] at ih
    rw [Lib.extract_toList, show a + (m + 1) - a = m + 1 by omega, seg_succ]
    have hl : m < (s.data.toList.drop a).length := by
      rw [List.length_drop]; have : s.data.toList.length = s.size := rfl
      omega
    rw [List.take_succ_eq_append_getElem hl, ih]
    simp only [Lib.bytesOf, List.map_append, List.map_cons, List.map_nil]
    rw [bt_nat s (a + m) (by omega)]
    simp
theorem bytesOf_inj : ∀ {xs ys : List Int}, (∀ x ∈ xs, 0 ≤ x ∧ x ≤ 255) → (∀ x ∈ ys, 0 ≤ x ∧ x ≤ 255) → Lib.bytesOf xs = Lib.bytesOf ys → xs = ys
  | [], [], _, _, _ => rfl
  | [], y :: ys, _, _, h => by simp [Lib.bytesOf] at h
  | x :: xs, [], _, _, h => by simp [Lib.bytesOf] at h
  | x :: xs, y :: ys, hx, hy, h => by
    simp only [Lib.bytesOf, List.map_cons, List.cons.injEq] at h
    have h1 := hx x (by simp)
    have h2 := hy y (by simp)
    have e : x = y := by
      have := congrArg UInt8.toNat h.1
      simp only [UInt8.toNat_ofNat'] at this
      omega
    rw [e, bytesOf_inj (fun z hz => hx z (by simp [hz])) (fun z hz => hy z (by simp [hz])) h.2]

theorem bdata_app (a b : ByteArray) : (a ++ b).data.toList = a.data.toList ++ b.data.toList := by rw [ByteArray.data_append, Array.toList_append]
def nl (l : List UInt8) : List Int := l.map fun b => (b.toNat : Int)
theorem nl_app (a b : List UInt8) : nl (a ++ b) = nl a ++ nl b := by simp [nl]
theorem nl_len (s : ByteArray) : (nl s.data.toList).length = s.size := by simp only [nl, List.length_map]; rfl
theorem nl_range (l : List UInt8) : ∀ x ∈ nl l, 0 ≤ x ∧ x ≤ 255 := by
  intro x hx
  simp only [nl, List.mem_map] at hx
  obtain ⟨b, _, rfl⟩ := hx
  have := b.toNat_lt
  omega
theorem nl_bytes : ∀ (xs : List Int), (∀ x ∈ xs, 0 ≤ x ∧ x ≤ 255) → nl (Lib.bytesOf xs) = xs
  | [], _ => rfl
  | x :: xs, h => by
    have ih := nl_bytes xs (fun y hy => h y (by simp [hy]))
    have hx := h x (by simp)
    simp only [nl, Lib.bytesOf, List.map_cons] at ih ⊢
    rw [ih, UInt8.toNat_ofNat']
    congr 1
    omega
theorem nl_str (xs : List Int) (h : ∀ x ∈ xs, 0 ≤ x ∧ x ≤ 255) : nl (strOfNums xs).data.toList = xs := by
  rw [← Lib.toList_data, Lib.strOfNums_toList, nl_bytes xs h]
theorem str_nl (s : ByteArray) : strOfNums (nl s.data.toList) = s := by
  unfold nl
  rw [Lib.Lz.strOfNums_map]
theorem bt_nl (s : ByteArray) (i : Nat) : bt s (i : Int) = (nl s.data.toList).getD i 0 := by
  by_cases h : i < s.size
  · have hl : i < (nl s.data.toList).length := by rw [nl_len]; exact h
    rw [bt_nat s i h, List.getD_eq_getElem?_getD, List.getElem?_eq_getElem hl]
    simp [nl]
  · have hl : (nl s.data.toList).length ≤ i := by rw [nl_len]; omega
    rw [List.getD_eq_getElem?_getD, List.getElem?_eq_none hl]
    unfold bt
    rw [dif_neg (by simpa using h)]
    rfl

def isLe (x : Int) : Bool := decide (97 ≤ x ∧ x ≤ 122)
def isFi (x : Int) : Bool := decide (48 ≤ x ∧ x ≤ 57)
theorem spec_letter_is (x : Int) : spec_l03Letter.f x = some (isLe x) := by
  unfold spec_l03Letter.f isLe
  by_cases c : x ≥ 97
  · rw [if_pos c]; by_cases d : x ≤ 122 <;> simp [d, c]
  · rw [if_neg c]; simp; intro h; omega
theorem spec_figure_is (x : Int) : spec_l03Figure.f x = some (isFi x) := by
  unfold spec_l03Figure.f isFi
  by_cases c : x ≥ 48
  · rw [if_pos c]; by_cases d : x ≤ 57 <;> simp [d, c]
  · rw [if_neg c]; simp; intro h; omega
theorem impl_letter_is (x : Int) : impl_isLetter.f x = some (isLe x) := spec_letter_is x
theorem impl_figure_is (x : Int) : impl_isFigure.f x = some (isFi x) := spec_figure_is x

theorem impl_in_is (x y z : Int) : impl_in.f x y z = some (decide (y ≤ x ∧ x ≤ z)) := by
  unfold impl_in.f
  by_cases c : x ≥ y
  · rw [if_pos c]; by_cases d : x ≤ z <;> simp [d, c]
  · rw [if_neg c]; simp; intro h; omega

theorem set_at {α : Type} : ∀ (a : List α) (b : α) (r : List α) (v : α) (i : Nat), a.length = i → (a ++ b :: r).set i v = a ++ v :: r
  | [], b, r, v, i, h => by subst h; rfl
  | x :: a, b, r, v, i, h => by
    subst h
    simp only [List.cons_append, List.length_cons, List.set_cons_succ, set_at a b r v a.length rfl]
theorem copy_step {α β : Type} (f : α → β) (xs : List α) (z : β) (i : Nat) (h : i < xs.length) :
    ((xs.take i).map f ++ List.replicate (xs.length - i) z).set i (f xs[i]) = (xs.take (i + 1)).map f ++ List.replicate (xs.length - (i + 1)) z := by
  rw [show xs.length - i = (xs.length - (i + 1)) + 1 by omega, List.replicate_succ, set_at _ _ _ _ i (by simp; omega), List.take_succ_eq_append_getElem h, List.map_append, List.append_assoc]
  rfl
theorem rd_nat (xs : List Int) (i : Nat) (h : i < xs.length) : rd xs (i : Int) = xs[i] := by
  unfold rd
  rw [Int.toNat_natCast, List.getD_eq_getElem?_getD, List.getElem?_eq_getElem h]; rfl
theorem getD_nat {α : Type} (xs : List α) (z : α) (i : Nat) (h : i < xs.length) : xs.getD ((i : Int)).toNat z = xs[i] := by
  rw [Int.toNat_natCast, List.getD_eq_getElem?_getD, List.getElem?_eq_getElem h]; rfl
theorem w_succ {i : Nat} (h : i < 4611686018427387904) : wrap64 ((i : Int) + 1) = ((i + 1 : Nat) : Int) := by unfold wrap64; omega
theorem drop_eq {α : Type} (a b : List α) (i : Nat) (ha : i < a.length) (hb : i < b.length) : a.drop i = b.drop i ↔ a[i] = b[i] ∧ a.drop (i + 1) = b.drop (i + 1) := by
  rw [List.drop_eq_getElem_cons ha, List.drop_eq_getElem_cons hb, List.cons.injEq]

abbrev SgT := S63
theorem rdG_nat (xs : List SgT) (i : Nat) (h : i < xs.length) : rd_T63 xs (i : Int) = xs[i] := by
  unfold rd_T63
  exact getD_nat xs _ i h

open Given
theorem pre_iff (s m : ByteArray) (i : Nat) (hi : i ≤ s.size) : Lib.hasPrefix (s.extract i s.size).data.toList m.data.toList = (decide (i + m.size ≤ s.size) && decide ((s.extract i (i + m.size)).toList = m.toList)) := by
  have hd : s.data.toList.length = s.size := rfl
  have hm : m.data.toList.length = m.size := rfl
  rw [← Lib.toList_data, Lib.extract_toList, Lib.extract_toList, Lib.toList_data, show i + m.size - i = m.size by omega]
  have e1 : (s.data.toList.drop i).take (s.size - i) = s.data.toList.drop i := List.take_of_length_le (by rw [List.length_drop]; omega)
  rw [e1, Lib.hasPrefix]
  apply Bool.eq_iff_iff.mpr
  rw [List.isPrefixOf_iff_prefix, List.prefix_iff_eq_take, Bool.and_eq_true, decide_eq_true_eq, decide_eq_true_eq, hm]
  constructor
  · intro h
    have hl := congrArg List.length h
    rw [List.length_take, List.length_drop, hm, hd] at hl
    exact ⟨by omega, h.symm⟩
  · intro h
    exact h.2.symm
def fMark (s : ByteArray) (i : Nat) : List ByteArray → ByteArray
  | [] => ⟨#[]⟩
  | m :: r => if (decide (i + m.size ≤ s.size) && decide ((s.extract i (i + m.size)).toList = m.toList)) = true then m else fMark s i r
theorem rdO_nat (l : List ByteArray) (j : Nat) (h : j < l.length) : rdOf ByteArray.empty l (j : Int) = l[j] := by simp [rdOf, List.getD, List.getElem?_eq_getElem h]
theorem spec_mark_l0 (s : ByteArray) (hs : s.size ≤ 3000) (i : Nat) (hi : i ≤ s.size) (l : List ByteArray) (hl : l.length ≤ 100) (hm : ∀ m ∈ l, m.size ≤ 10) : ∀ n j : Nat, l.length - j = n → j ≤ l.length → Ev (fun k => spec_l03Mark.l0 k s (i : Int) l (j : Int)) (fMark s i (l.drop j))
  | 0, j, hn, hj => ev_s0 fun k => by
    rw [spec_l03Mark.l0, if_neg (by omega), List.drop_eq_nil_of_le (by omega)]; rfl
  | n + 1, j, hn, hj => ev_s1 (spec_mark_l0 s hs i hi l hl hm n (j + 1) (by omega) (by omega)) fun k h => by
    have q3 : j < l.length := by omega
    have q4 := hm l[j] (List.getElem_mem q3)
    have e : wrap64 ((j : Int) + 1) = ((j + 1 : Nat) : Int) := by rw [b_w64 (by omega) (by omega)]; omega
    have e2 : wrap64 ((i : Int) + (l[j].size : Int)) = ((i + l[j].size : Nat) : Int) := by rw [b_w64 (by omega) (by omega)]; omega
    rw [spec_l03Mark.l0, if_pos (by omega), if_pos (by omega), rdO_nat l j q3, e, e2, List.drop_eq_getElem_cons q3, fMark, h]
    by_cases c : i + l[j].size ≤ s.size
    · rw [if_pos (by omega), if_pos (by omega), if_pos (by omega), decide_eq_true c, Int.toNat_natCast, Int.toNat_natCast]
      by_cases d : (s.extract i (i + l[j].size)).toList = l[j].toList
      · rw [if_pos d, decide_eq_true d]; rfl
      · rw [if_neg d, decide_eq_false d]; rfl
    · rw [if_neg (by omega), decide_eq_false c]; rfl
theorem impl_mark_l0 (s : ByteArray) (hs : s.size ≤ 3000) (i : Nat) (hi : i ≤ s.size) (l : List ByteArray) (hl : l.length ≤ 100) : ∀ n j : Nat, l.length - j = n → j ≤ l.length → Ev (fun k => impl_markAt.l0 k s (i : Int) l (l.length : Int) (j : Int)) (fMark s i (l.drop j))
  | 0, j, hn, hj => ev_s0 fun k => by
    rw [impl_markAt.l0, if_neg (by omega), List.drop_eq_nil_of_le (by omega)]; rfl
  | n + 1, j, hn, hj => ev_s1 (impl_mark_l0 s hs i hi l hl n (j + 1) (by omega) (by omega)) fun k h => by
    have q3 : j < l.length := by omega
    have e : wrap64 ((j : Int) + 1) = ((j + 1 : Nat) : Int) := by rw [b_w64 (by omega) (by omega)]; omega
    rw [impl_markAt.l0, if_pos (by omega), if_pos (by omega), if_pos (by omega), if_pos (by omega), if_pos (by omega), rdO_nat l j q3, e, Int.toNat_natCast, strings_HasPrefix.f, pre_iff s _ i hi, Option.bind_some, List.drop_eq_getElem_cons q3, fMark, h]
    cases (decide (i + l[j].size ≤ s.size) && decide ((s.extract i (i + l[j].size)).toList = l[j].toList)) <;> rfl
def theMarks : List ByteArray := [⟨#[45, 62]⟩, ⟨#[61, 61]⟩, ⟨#[40]⟩, ⟨#[41]⟩, ⟨#[123]⟩, ⟨#[125]⟩, ⟨#[59]⟩, ⟨#[58]⟩, ⟨#[44]⟩, ⟨#[38]⟩, ⟨#[42]⟩, ⟨#[61]⟩, ⟨#[43]⟩, ⟨#[60]⟩]
theorem theMarks_spec : spec_l03Marks.f = some theMarks := rfl
theorem theMarks_split : strings_Split.f (⟨#[45, 62, 32, 61, 61, 32, 40, 32, 41, 32, 123, 32, 125, 32, 59, 32, 58, 32, 44, 32, 38, 32, 42, 32, 61, 32, 43, 32, 60]⟩ : ByteArray) (⟨#[32]⟩ : ByteArray) = some theMarks := by kernel_rfl
theorem theMarks_size : ∀ m ∈ theMarks, 1 ≤ m.size ∧ m.size ≤ 2 := by decide
theorem spec_mark_ev (s : ByteArray) (hs : s.size ≤ 3000) (i : Nat) (hi : i ≤ s.size) : Ev (fun k => spec_l03Mark.f k s (i : Int)) (fMark s i theMarks) :=
  ev_a1 (spec_mark_l0 s hs i hi theMarks (by decide) (fun m h => by have := theMarks_size m h; omega) 14 0 rfl (by decide)) fun k h => by
    rw [spec_l03Mark.f, theMarks_spec]; exact h
theorem impl_mark_ev (s : ByteArray) (hs : s.size ≤ 3000) (i : Nat) (hi : i ≤ s.size) : Ev (fun k => impl_markAt.f k s (i : Int)) (fMark s i theMarks) :=
  ev_a1 (impl_mark_l0 s hs i hi theMarks (by decide) 14 0 rfl (by decide)) fun k h => by
    rw [impl_markAt.f, theMarks_split]; exact h
theorem fMark_size (s : ByteArray) (i : Nat) : ∀ l : List ByteArray, (∀ m ∈ l, 1 ≤ m.size ∧ m.size ≤ 2) → fMark s i l = ⟨#[]⟩ ∨ (1 ≤ (fMark s i l).size ∧ (fMark s i l).size ≤ 2 ∧ i + (fMark s i l).size ≤ s.size)
  | [], _ => .inl rfl
  | m :: r, h => by
    rw [fMark]
    split
    · rename_i c
      rw [Bool.and_eq_true, decide_eq_true_eq] at c
      have := h m (by simp)
      exact .inr ⟨this.1, this.2, c.1⟩
    · exact fMark_size s i r (fun x hx => h x (by simp [hx]))
def wEnd (s : ByteArray) (lt : Bool) : Nat → Nat → Nat
  | 0, j => j
  | n + 1, j => if (isFi (bt s (j : Int)) || (lt && isLe (bt s (j : Int)))) = true then wEnd s lt n (j + 1) else j
theorem wEnd_bounds (s : ByteArray) (lt : Bool) : ∀ n j : Nat, j ≤ wEnd s lt n j ∧ wEnd s lt n j ≤ j + n
  | 0, j => by simp [wEnd]
  | n + 1, j => by
    rw [wEnd]
    have := wEnd_bounds s lt n (j + 1)
    split <;> omega
theorem wEnd_fig (s : ByteArray) : ∀ n j : Nat, (∀ t, j ≤ t → t < wEnd s false n j → isFi (bt s (t : Int)) = true) ∧ (wEnd s false n j < j + n → isFi (bt s ((wEnd s false n j : Nat) : Int)) = false)
  | 0, j => ⟨fun t h1 h2 => by simp [wEnd] at h2; omega, fun h => by simp [wEnd] at h⟩
  | n + 1, j => by
    have ih := wEnd_fig s n (j + 1)
    rw [wEnd]
    by_cases c : isFi (bt s (j : Int)) = true
    · simp only [c, Bool.true_or, if_true]
      refine ⟨fun t h1 h2 => ?_, fun h => ih.2 (by omega)⟩
      by_cases e : t = j
      · rw [e]; exact c
      · exact ih.1 t (by omega) h2
    · have c' : isFi (bt s (j : Int)) = false := by simpa using c
      simp only [c', Bool.false_and, Bool.or_self]
      exact ⟨fun t h1 h2 => by simp at h2; omega, fun _ => by simpa using c'⟩
theorem impl_wordEnd_l0 (s : ByteArray) (hs : s.size ≤ 3000) (lt : Bool) : ∀ n j : Nat, s.size - j = n → j ≤ s.size → Ev (fun k => impl_wordEnd.l0 k s (j : Int) lt) ((wEnd s lt n j : Nat) : Int)
  | 0, j, hn, hj => ev_s0 fun k => by rw [impl_wordEnd.l0, if_neg (by omega)]; rfl
  | n + 1, j, hn, hj => ev_s1 (impl_wordEnd_l0 s hs lt n (j + 1) (by omega) (by omega)) fun k h => by
    have e : wrap64 ((j : Int) + 1) = ((j + 1 : Nat) : Int) := by rw [b_w64 (by omega) (by omega)]; omega
    rw [impl_wordEnd.l0, if_pos (by omega), if_pos (by omega), impl_figure_is, impl_letter_is, e, Option.bind_some, Option.bind_some, h, wEnd]
    cases isFi (bt s (j : Int)) <;> cases lt <;> cases isLe (bt s (j : Int)) <;> rfl
theorem impl_wordEnd_ev (s : ByteArray) (hs : s.size ≤ 3000) (lt : Bool) (j : Nat) (hj : j ≤ s.size) : Ev (fun k => impl_wordEnd.f k s (j : Int) lt) ((wEnd s lt (s.size - j) j : Nat) : Int) :=
  ev_a1 (impl_wordEnd_l0 s hs lt (s.size - j) j rfl hj) fun k h => h

theorem bt_cut (s : ByteArray) (a b t : Nat) (hb : b ≤ s.size) (ht : a + t < b) : bt (s.extract a b) (t : Int) = bt s ((a + t : Nat) : Int) := by
  have hsz : (s.extract a b).size = b - a := by rw [ByteArray.size_extract]; omega
  have h1 : t < (s.extract a b).size := by omega
  have h2 : a + t < s.size := by omega
  unfold bt
  rw [dif_pos (by rw [Int.toNat_natCast]; exact h1), dif_pos (by rw [Int.toNat_natCast]; exact h2)]
  simp only [Int.toNat_natCast]
  rw [ByteArray.getElem_extract]
def numV (s : ByteArray) (i : Nat) : Nat → Int
  | 0 => 0
  | d + 1 => 10 * numV s i d + (bt s ((i + d : Nat) : Int) - 48)
theorem fig_range {x : Int} (h : isFi x = true) : 48 ≤ x ∧ x ≤ 57 := by unfold isFi at h; simpa using h
theorem numV_bound (s : ByteArray) (i L : Nat) (hf : ∀ t, i ≤ t → t < i + L → isFi (bt s (t : Int)) = true) : ∀ d, d ≤ L → 0 ≤ numV s i d ∧ numV s i d < 10 ^ d
  | 0, _ => by simp [numV]
  | d + 1, h => by
    have ih := numV_bound s i L hf d (by omega)
    have r := fig_range (hf (i + d) (by omega) (by omega))
    have p : (10 : Int) ^ (d + 1) = 10 * 10 ^ d := by rw [Int.pow_succ]; omega
    rw [numV, p]
    generalize (10 : Int) ^ d = z at ih ⊢
    omega
theorem numV_small (s : ByteArray) (i L : Nat) (hf : ∀ t, i ≤ t → t < i + L → isFi (bt s (t : Int)) = true) (d : Nat) (h : d ≤ L) (h11 : d ≤ 11) : 0 ≤ numV s i d ∧ numV s i d < 100000000000 := by
  have b := numV_bound s i L hf d h
  have p : (10 : Nat) ^ d ≤ 10 ^ 11 := Nat.pow_le_pow_right (by omega) h11
  have p2 : ((10 ^ d : Nat) : Int) ≤ ((10 ^ 11 : Nat) : Int) := by exact_mod_cast p
  have e : ((10 ^ d : Nat) : Int) = (10 : Int) ^ d := by push_cast; rfl
  have e2 : ((10 ^ 11 : Nat) : Int) = 100000000000 := by decide
  omega
theorem num_step (v x : Int) (hv : 0 ≤ v ∧ v < 100000000000) (hx : 48 ≤ x ∧ x ≤ 57) : wrap64 (wrap64 (10 * v) + (x - 48) % 256) = 10 * v + (x - 48) := by
  have q1 : -9223372036854775808 ≤ 10 * v ∧ 10 * v ≤ 9223372036854775807 := by omega
  have q2 : (x - 48) % 256 = x - 48 := by omega
  have q3 : -9223372036854775808 ≤ 10 * v + (x - 48) ∧ 10 * v + (x - 48) ≤ 9223372036854775807 := by omega
  rw [b_w64 q1.1 q1.2, q2, b_w64 q3.1 q3.2]
theorem num_step2 (v x : Int) (hv : 0 ≤ v ∧ v < 100000000000) (hx : 48 ≤ x ∧ x ≤ 57) : wrap64 (wrap64 (wrap64 (10 * v) + wrap64 x) - 48) = 10 * v + (x - 48) := by
  have q1 : -9223372036854775808 ≤ 10 * v ∧ 10 * v ≤ 9223372036854775807 := by omega
  have q2 : -9223372036854775808 ≤ x ∧ x ≤ 9223372036854775807 := by omega
  have q3 : -9223372036854775808 ≤ 10 * v + x ∧ 10 * v + x ≤ 9223372036854775807 := by omega
  have q4 : -9223372036854775808 ≤ 10 * v + x - 48 ∧ 10 * v + x - 48 ≤ 9223372036854775807 := by omega
  rw [b_w64 q1.1 q1.2, b_w64 q2.1 q2.2, b_w64 q3.1 q3.2, b_w64 q4.1 q4.2]
  omega
theorem impl_number_l0 (s : ByteArray) (i L : Nat) (hs : s.size ≤ 3000) (hL : i + L ≤ s.size) (hf : ∀ t, i ≤ t → t < i + L → isFi (bt s (t : Int)) = true) (h1 : 1 ≤ L) : ∀ n d : Nat, min L 10 - d = n → d ≤ min L 10 →
    Ev (fun k => impl_numberOf.l0 k (s.extract i (i + L)) (numV s i d) (d : Int)) (numV s i (min L 10), decide (L ≤ 10) && decide (numV s i (min L 10) ≤ 1000000000))
  | 0, d, hn, hd => ev_s0 fun k => by
    have hsz : (s.extract i (i + L)).size = L := by rw [ByteArray.size_extract]; omega
    have e : d = min L 10 := by omega
    rw [impl_numberOf.l0, hsz, impl_in_is, e, Option.bind_some]
    by_cases c : L ≤ 10
    · have q : (1 : Int) ≤ (L : Int) ∧ (L : Int) ≤ 10 := by omega
      rw [if_neg (by omega), decide_eq_true q, decide_eq_true c, if_pos rfl, Bool.true_and]
    · have q : ¬ ((1 : Int) ≤ (L : Int) ∧ (L : Int) ≤ 10) := by omega
      rw [if_pos (by omega), if_neg (by omega), decide_eq_false q, decide_eq_false c, if_neg (by decide), Bool.false_and]
  | n + 1, d, hn, hd => ev_s1 (impl_number_l0 s i L hs hL hf h1 n (d + 1) (by omega) (by omega)) fun k h => by
    have hsz : (s.extract i (i + L)).size = L := by rw [ByteArray.size_extract]; omega
    have p1 : (d : Int) < (L : Int) := by omega
    have p2 : (d : Int) < 10 := by omega
    have p3 : (0 : Int) ≤ (d : Int) := by omega
    have p4 : i + d < i + L := by omega
    have e : wrap64 ((d : Int) + 1) = ((d + 1 : Nat) : Int) := by rw [b_w64 (by omega) (by omega)]; omega
    have p5 : d ≤ L := by omega
    have p6 : d ≤ 11 := by omega
    have p7 : i ≤ i + d := by omega
    have b := numV_small s i L hf d p5 p6
    have r := fig_range (hf (i + d) p7 p4)
    rw [impl_numberOf.l0, hsz, if_pos p1, if_pos p2, if_pos p3, bt_cut s i (i + L) d hL p4, e, num_step _ _ b r]
    rw [numV] at h
    exact h
theorem impl_number_ev (s : ByteArray) (i L : Nat) (hs : s.size ≤ 3000) (hL : i + L ≤ s.size) (hf : ∀ t, i ≤ t → t < i + L → isFi (bt s (t : Int)) = true) (h1 : 1 ≤ L) :
    Ev (fun k => impl_numberOf.f k (s.extract i (i + L))) (numV s i (min L 10), decide (L ≤ 10) && decide (numV s i (min L 10) ≤ 1000000000)) :=
  ev_a1 (impl_number_l0 s i L hs hL hf h1 (min L 10) 0 (by omega) (by omega)) fun k h => h
/-- the loop over a name's letters and figures, up to its end -/
theorem spec_l1_ev (s : ByteArray) (hs : s.size ≤ 3000) (i : Nat) (out : List SgT) (R : List SgT × Bool) : ∀ n j : Nat, s.size - j = n → i ≤ j → j ≤ s.size →
    (∀ e : Nat, e = wEnd s true n j → Ev (fun k => if wrap64 ((e : Int) - (i : Int)) > 8 then some (([] : List SgT), false) else if 0 ≤ (i : Int) then if (i : Int) ≤ (e : Int) then if (e : Int) ≤ (s.size : Int) then if out.length < 4398046511104 then spec_SignsOf.l0 k s [] (out ++ [(⟨1, s.extract (i : Int).toNat (e : Int).toNat, 0⟩ : SgT)]) (e : Int) else none else none else none else none) R) →
    Ev (fun k => spec_SignsOf.l1 k s [] out (i : Int) (j : Int)) R
  | 0, j, hn, hi, hj, H => ev_s1 (H j rfl) fun k h => by
    rw [spec_SignsOf.l1, if_neg (by omega)]
    exact h
  | n + 1, j, hn, hi, hj, H => by
    have q1 : (j : Int) < (s.size : Int) := by omega
    have q2 : (0 : Int) ≤ (j : Int) := by omega
    have e : wrap64 ((j : Int) + 1) = ((j + 1 : Nat) : Int) := by rw [b_w64 (by omega) (by omega)]; omega
    by_cases c : (isFi (bt s (j : Int)) || (true && isLe (bt s (j : Int)))) = true
    · have ih := spec_l1_ev s hs i out R n (j + 1) (by omega) (by omega) (by omega) (fun e he => H e (by rw [he, wEnd, if_pos c]))
      refine ev_s1 ih fun k h => ?_
      rw [spec_SignsOf.l1, if_pos q1, if_pos q2, spec_letter_is, spec_figure_is, e, Option.bind_some, Option.bind_some, h]
      cases d : isLe (bt s (j : Int))
      · have f : isFi (bt s (j : Int)) = true := by simpa [d] using c
        rw [f]; rfl
      · rfl
    · refine ev_s1 (H j (by rw [wEnd, if_neg c])) fun k h => ?_
      have c' : isFi (bt s (j : Int)) = false ∧ isLe (bt s (j : Int)) = false := by simpa using c
      rw [spec_SignsOf.l1, if_pos q1, if_pos q2, spec_letter_is, spec_figure_is, Option.bind_some, Option.bind_some, c'.1, c'.2]
      exact h
/-- the loop over a number's figures: at most eleven -/
theorem spec_l2_ev (s : ByteArray) (hs : s.size ≤ 3000) (i L : Nat) (hL : i + L ≤ s.size) (hf : ∀ t, i ≤ t → t < i + L → isFi (bt s (t : Int)) = true) (hend : i + L < s.size → isFi (bt s ((i + L : Nat) : Int)) = false) (out : List SgT) (R : List SgT × Bool)
    (H : Ev (fun k => spec_SignsOf.j4 k s [] out (i : Int) ((i + min L 11 : Nat) : Int) (numV s i (min L 11))) R) : ∀ n d : Nat, min L 11 - d = n → d ≤ min L 11 →
    Ev (fun k => spec_SignsOf.l2 k s [] out (i : Int) ((i + d : Nat) : Int) (numV s i d)) R
  | 0, d, hn, hd => ev_s1 H fun k h => by
    have e : d = min L 11 := by omega
    have e2 : wrap64 (((i + min L 11 : Nat) : Int) - (i : Int)) = ((min L 11 : Nat) : Int) := by rw [b_w64 (by omega) (by omega)]; omega
    rw [e, spec_SignsOf.l2, spec_figure_is, Option.bind_some, e2]
    by_cases q : i + min L 11 < s.size
    · rw [if_pos (by omega), if_pos (by omega)]
      by_cases c : L ≤ 10
      · have e3 : min L 11 = L := by omega
        rw [e3] at h ⊢
        rw [hend (by omega)]
        exact h
      · rw [if_neg (by omega : ¬ ((min L 11 : Nat) : Int) ≤ 10)]
        cases isFi (bt s ((i + min L 11 : Nat) : Int)) <;> exact h
    · rw [if_neg (by omega)]; exact h
  | n + 1, d, hn, hd => ev_s1 (spec_l2_ev s hs i L hL hf hend out R H n (d + 1) (by omega) (by omega)) fun k h => by
    have e : wrap64 (((i + d : Nat) : Int) + 1) = ((i + (d + 1) : Nat) : Int) := by rw [b_w64 (by omega) (by omega)]; omega
    have e2 : wrap64 (((i + d : Nat) : Int) - (i : Int)) = (d : Int) := by rw [b_w64 (by omega) (by omega)]; omega
    have p1 : ((i + d : Nat) : Int) < (s.size : Int) := by omega
    have p2 : (0 : Int) ≤ ((i + d : Nat) : Int) := by omega
    have p3 : (d : Int) ≤ 10 := by omega
    have p4 := hf (i + d) (by omega) (by omega)
    have b := numV_small s i L hf d (by omega) (by omega)
    have r := fig_range p4
    rw [spec_SignsOf.l2, if_pos p1, if_pos p2, spec_figure_is, Option.bind_some, p4, if_pos rfl, e2, if_pos p3, e, num_step2 _ _ b r]
    rw [numV] at h
    exact h

def sgOk (x : SgT) : Prop := x.f1.size ≤ 1048576 ∧ (Lit.int .i64 x.f2).wf = true
theorem wf_small {x : Int} (h0 : 0 ≤ x) (h1 : x ≤ 1000000000) : (Lit.int .i64 x).wf = true := by
  simp only [Lit.wf, Bool.and_eq_true, decide_eq_true_eq]
  have e1 : IntKind.i64.min = -9223372036854775808 := by decide
  have e2 : IntKind.i64.max = 9223372036854775807 := by decide
  omega
theorem wf_zero : (Lit.int .i64 0).wf = true := by decide
theorem ok_app {out : List SgT} {g : SgT} (h : ∀ x ∈ out, sgOk x) (hg : sgOk g) : ∀ x ∈ out ++ [g], sgOk x := by
  intro x hx
  rcases List.mem_append.1 hx with hx | hx
  · exact h x hx
  · rw [List.mem_singleton.1 hx]; exact hg

theorem signs_both (s : ByteArray) (hs : s.size ≤ 3000) : ∀ m i : Nat, ∀ out : List SgT, s.size - i ≤ m → i ≤ s.size → out.length ≤ i → (∀ x ∈ out, sgOk x) →
    ∃ R : List SgT × Bool, (R.1.length ≤ 3000 ∧ ∀ x ∈ R.1, sgOk x) ∧ Ev (fun k => spec_SignsOf.l0 k s [] out (i : Int)) R ∧ Ev (fun k => impl_SignsOf.l0 k s out (i : Int)) R := by
  intro m
  induction m with
  | zero =>
    intro i out hm hi ho hk
    refine ⟨(out, true), ⟨by simp; omega, hk⟩, ev_s0 fun k => ?_, ev_s0 fun k => ?_⟩
    · rw [spec_SignsOf.l0, if_neg (by omega)]
    · rw [impl_SignsOf.l0, if_neg (by omega)]
  | succ m IH =>
    intro i out hm hi ho hk
    by_cases hlt : i < s.size
    case neg =>
      refine ⟨(out, true), ⟨by simp; omega, hk⟩, ev_s0 fun k => ?_, ev_s0 fun k => ?_⟩
      · rw [spec_SignsOf.l0, if_neg (by omega)]
      · rw [impl_SignsOf.l0, if_neg (by omega)]
    have q1 : (i : Int) < (s.size : Int) := by omega
    have q2 : (0 : Int) ≤ (i : Int) := by omega
    have w1 : wrap64 ((i : Int) + 1) = ((i + 1 : Nat) : Int) := by rw [b_w64 (by omega) (by omega)]; omega
    have ol : out.length < 4398046511104 := by omega
    -- the round's head: blank or not
    have headS : ∀ (b : Bool) (R : List SgT × Bool), b = (decide (bt s (i : Int) = 32) || (bt s (i : Int) == 10)) → Ev (fun k => spec_SignsOf.j1 k s [] out (i : Int) b) R → Ev (fun k => spec_SignsOf.l0 k s [] out (i : Int)) R := by
      intro b R hb H
      refine ev_s1 H fun k h => ?_
      rw [spec_SignsOf.l0, if_pos q1, if_pos q2]
      by_cases c : bt s (i : Int) = 32
      · rw [if_pos c]; rw [hb, decide_eq_true c, Bool.true_or] at h; exact h
      · rw [if_neg c]; rw [hb, decide_eq_false c, Bool.false_or] at h; exact h
    have headI : ∀ (b : Bool) (R : List SgT × Bool), b = (decide (bt s (i : Int) = 32) || (bt s (i : Int) == 10)) → Ev (fun k => impl_SignsOf.j1 k s out (i : Int) (bt s (i : Int)) b) R → Ev (fun k => impl_SignsOf.l0 k s out (i : Int)) R := by
      intro b R hb H
      refine ev_s1 H fun k h => ?_
      rw [impl_SignsOf.l0, if_pos q1, if_pos q2]
      by_cases c : bt s (i : Int) = 32
      · rw [if_pos c]; rw [hb, decide_eq_true c, Bool.true_or] at h; exact h
      · rw [if_neg c]; rw [hb, decide_eq_false c, Bool.false_or] at h; exact h
    cases hb : (decide (bt s (i : Int) = 32) || (bt s (i : Int) == 10))
    case true =>
      obtain ⟨R, hR, h1, h2⟩ := IH (i + 1) out (by omega) (by omega) (by omega) hk
      refine ⟨R, hR, headS true R hb.symm (ev_s1 h1 fun k h => ?_), headI true R hb.symm (ev_s1 h2 fun k h => ?_)⟩
      · rw [spec_SignsOf.j1, if_pos rfl, w1]; exact h
      · rw [impl_SignsOf.j1, if_pos rfl, w1]; exact h
    case false =>
      cases hle : isLe (bt s (i : Int))
      case true =>
        -- a name
        obtain ⟨e, he⟩ : ∃ e, e = wEnd s true (s.size - i) i := ⟨_, rfl⟩
        have eb := wEnd_bounds s true (s.size - i) i
        have e1 : i + 1 ≤ e := by
          obtain ⟨n, hn⟩ : ∃ n, s.size - i = n + 1 := ⟨s.size - i - 1, by omega⟩
          have b2 := wEnd_bounds s true n (i + 1)
          rw [he, hn, wEnd, if_pos (by rw [hle]; simp)]
          exact b2.1
        rw [← he] at eb
        have e2 : e ≤ s.size := by omega
        have w2 : wrap64 ((e : Int) - (i : Int)) = (e : Int) - (i : Int) := b_w64 (by omega) (by omega)
        have wE := impl_wordEnd_ev s hs true i hi
        rw [← he] at wE
        by_cases c8 : (e : Int) - (i : Int) > 8
        · refine ⟨([], false), ⟨by simp, fun x hx => by simp at hx⟩, headS false _ hb.symm ?_, headI false _ hb.symm ?_⟩
          · have H := spec_l1_ev s hs i out ([], false) (s.size - i) i rfl (by omega) hi (fun e' he' => ev_a0 fun k => by
              rw [← he] at he'
              subst he'
              rw [w2, if_pos c8])
            refine ev_s1 H fun k h => ?_
            rw [spec_SignsOf.j1, if_neg (by decide), if_pos q2, if_pos q1, spec_letter_is, hle, Option.bind_some, if_pos rfl]
            exact h
          · refine ev_s1 wE fun k h => ?_
            rw [impl_SignsOf.j1, if_neg (by decide), impl_letter_is, hle, Option.bind_some, if_pos rfl, h, Option.bind_some, w2, if_pos c8]
        · have p1 : (i : Int) ≤ (e : Int) := by omega
          have p2 : (e : Int) ≤ (s.size : Int) := by omega
          obtain ⟨R, hR, h1, h2⟩ := IH e (out ++ [(⟨1, s.extract (i : Int).toNat (e : Int).toNat, 0⟩ : SgT)]) (by omega) e2 (by simp; omega) (ok_app hk ⟨by show (s.extract _ _).size ≤ _; rw [ByteArray.size_extract]; omega, wf_zero⟩)
          refine ⟨R, hR, headS false _ hb.symm ?_, headI false _ hb.symm ?_⟩
          · have H := spec_l1_ev s hs i out R (s.size - i) i rfl (by omega) hi (fun e' he' => ev_a1 h1 fun k h => by
              rw [← he] at he'
              subst he'
              rw [w2, if_neg c8, if_pos q2, if_pos p1, if_pos p2, if_pos ol]
              exact h)
            refine ev_s1 H fun k h => ?_
            rw [spec_SignsOf.j1, if_neg (by decide), if_pos q2, if_pos q1, spec_letter_is, hle, Option.bind_some, if_pos rfl]
            exact h
          · refine ev_s2 wE h2 fun k h h' => ?_
            rw [impl_SignsOf.j1, if_neg (by decide), impl_letter_is, hle, Option.bind_some, if_pos rfl, h, Option.bind_some, w2, if_neg c8, if_pos q2, if_pos p1, if_pos p2, if_pos ol]
            exact h'
      case false =>
        cases hfi : isFi (bt s (i : Int))
        case true =>
          -- a number
          obtain ⟨e, he⟩ : ∃ e, e = wEnd s false (s.size - i) i := ⟨_, rfl⟩
          have eb := wEnd_bounds s false (s.size - i) i
          have ef := wEnd_fig s (s.size - i) i
          have e1 : i + 1 ≤ e := by
            obtain ⟨n, hn⟩ : ∃ n, s.size - i = n + 1 := ⟨s.size - i - 1, by omega⟩
            have b2 := wEnd_bounds s false n (i + 1)
            rw [he, hn, wEnd, if_pos (by rw [hfi]; simp)]
            exact b2.1
          rw [← he] at eb ef
          obtain ⟨L, hL⟩ : ∃ L, e = i + L := ⟨e - i, by omega⟩
          have wE := impl_wordEnd_ev s hs false i hi
          rw [← he] at wE
          subst hL
          have l1 : 1 ≤ L := by omega
          have l2 : i + L ≤ s.size := by omega
          have hend : i + L < s.size → isFi (bt s ((i + L : Nat) : Int)) = false := fun h => ef.2 (by omega)
          have p1 : (i : Int) ≤ ((i + L : Nat) : Int) := by omega
          have p2 : ((i + L : Nat) : Int) ≤ (s.size : Int) := by omega
          have hx : s.extract (i : Int).toNat ((i + L : Nat) : Int).toNat = s.extract i (i + L) := by rw [Int.toNat_natCast, Int.toNat_natCast]
          have hnum := impl_number_ev s i L hs l2 ef.1 l1
          have w3 : wrap64 (((i + min L 11 : Nat) : Int) - (i : Int)) = ((min L 11 : Nat) : Int) := by rw [b_w64 (by omega) (by omega)]; omega
          by_cases ok : L ≤ 10 ∧ numV s i (min L 10) ≤ 1000000000
          · have m1 : min L 11 = L := by omega
            have m2 : min L 10 = L := by omega
            have n1 : ¬ ((L : Nat) : Int) > 10 := by omega
            rw [m2] at ok hnum
            rw [m1] at w3
            have n2 : ¬ numV s i L > 1000000000 := by have := ok.2; omega
            obtain ⟨R, hR, h1, h2⟩ := IH (i + L) (out ++ [(⟨2, (⟨#[]⟩ : ByteArray), numV s i L⟩ : SgT)]) (by omega) l2 (by simp; omega) (ok_app hk ⟨by show (0 : Nat) ≤ _; omega, wf_small (numV_bound s i L ef.1 L (Nat.le_refl _)).1 ok.2⟩)
            refine ⟨R, hR, headS false _ hb.symm ?_, headI false _ hb.symm ?_⟩
            · have H5 : Ev (fun k => spec_SignsOf.j5 k s [] out ((i + L : Nat) : Int) (numV s i L) false) R := ev_s1 h1 fun k h => by
                rw [spec_SignsOf.j5, if_neg (by decide), if_pos ol]; exact h
              have H4 : Ev (fun k => spec_SignsOf.j4 k s [] out (i : Int) ((i + min L 11 : Nat) : Int) (numV s i (min L 11))) R := by
                rw [m1]
                exact ev_s1 H5 fun k h => by
                  rw [spec_SignsOf.j4, w3, if_neg n1, decide_eq_false n2]; exact h
              have H := spec_l2_ev s hs i L l2 ef.1 hend out R H4 (min L 11) 0 (by omega) (by omega)
              refine ev_s1 H fun k h => ?_
              rw [spec_SignsOf.j1, if_neg (by decide), if_pos q2, if_pos q1, spec_letter_is, spec_figure_is, hle, hfi, Option.bind_some, if_neg (by decide), Option.bind_some, if_pos rfl]
              exact h
            · refine ev_s3 wE hnum h2 fun k h h' h'' => ?_
              rw [impl_SignsOf.j1, if_neg (by decide), impl_letter_is, impl_figure_is, hle, hfi, Option.bind_some, if_neg (by decide), Option.bind_some, if_pos rfl, h, Option.bind_some, if_pos q2, if_pos p1, if_pos p2, hx, h', Option.bind_some, decide_eq_true ok.1, decide_eq_true ok.2, if_pos (show (numV s i L, true && true).snd = true from rfl), if_pos ol]
              exact h''
          · refine ⟨([], false), ⟨by simp, fun x hx => by simp at hx⟩, headS false _ hb.symm ?_, headI false _ hb.symm ?_⟩
            · have H5 : Ev (fun k => spec_SignsOf.j5 k s [] out ((i + min L 11 : Nat) : Int) (numV s i (min L 11)) true) ([], false) := ev_s0 fun k => by
                rw [spec_SignsOf.j5, if_pos rfl]
              have H4 : Ev (fun k => spec_SignsOf.j4 k s [] out (i : Int) ((i + min L 11 : Nat) : Int) (numV s i (min L 11))) ([], false) := ev_s1 H5 fun k h => by
                rw [spec_SignsOf.j4, w3]
                by_cases c : ((min L 11 : Nat) : Int) > 10
                · rw [if_pos c]; exact h
                · have m1 : min L 11 = L := by omega
                  have m2 : min L 10 = L := by omega
                  have l10 : L ≤ 10 := by omega
                  rw [m2] at ok
                  have n2 : numV s i L > 1000000000 := by
                    apply Int.not_le.mp
                    exact fun h => ok ⟨l10, h⟩
                  rw [if_neg c]
                  rw [m1] at h ⊢
                  rw [decide_eq_true n2]; exact h
              have H := spec_l2_ev s hs i L l2 ef.1 hend out ([], false) H4 (min L 11) 0 (by omega) (by omega)
              refine ev_s1 H fun k h => ?_
              rw [spec_SignsOf.j1, if_neg (by decide), if_pos q2, if_pos q1, spec_letter_is, spec_figure_is, hle, hfi, Option.bind_some, if_neg (by decide), Option.bind_some, if_pos rfl]
              exact h
            · refine ev_s2 wE hnum fun k h h' => ?_
              have nb : (decide (L ≤ 10) && decide (numV s i (min L 10) ≤ 1000000000)) = false := by
                by_cases c : L ≤ 10
                · rw [decide_eq_true c, decide_eq_false (fun h => ok ⟨c, h⟩)]; rfl
                · rw [decide_eq_false c]; rfl
              rw [impl_SignsOf.j1, if_neg (by decide), impl_letter_is, impl_figure_is, hle, hfi, Option.bind_some, if_neg (by decide), Option.bind_some, if_pos rfl, h, Option.bind_some, if_pos q2, if_pos p1, if_pos p2, hx, h', Option.bind_some, nb, if_neg (show ¬ (numV s i (min L 10), false).snd = true from Bool.false_ne_true)]
        case false =>
          -- a mark
          have hS := spec_mark_ev s hs i hi
          have hI := impl_mark_ev s hs i hi
          rcases fMark_size s i theMarks theMarks_size with hz | ⟨z1, z2, z3⟩
          · rw [hz] at hS hI
            have em : (⟨#[]⟩ : ByteArray).toList = ([] : List UInt8) := by rw [Lib.toList_data]
            refine ⟨([], false), ⟨by simp, fun x hx => by simp at hx⟩, headS false _ hb.symm (ev_s1 hS fun k h => ?_), headI false _ hb.symm (ev_s1 hI fun k h => ?_)⟩
            · rw [spec_SignsOf.j1, if_neg (by decide), if_pos q2, if_pos q1, spec_letter_is, spec_figure_is, hle, hfi, Option.bind_some, if_neg (by decide), Option.bind_some, if_neg (by decide), h, Option.bind_some, if_pos em]
            · rw [impl_SignsOf.j1, if_neg (by decide), impl_letter_is, impl_figure_is, hle, hfi, Option.bind_some, if_neg (by decide), Option.bind_some, if_neg (by decide), h, Option.bind_some, if_pos em]
          · generalize fMark s i theMarks = mk at hS hI z1 z2 z3
            have em : ¬ mk.toList = ([] : List UInt8) := by
              intro h
              have := congrArg List.length h
              rw [Lib.toList_data] at this
              have e : mk.data.toList.length = mk.size := rfl
              rw [e] at this
              have e0 : ([] : List UInt8).length = 0 := rfl
              rw [e0] at this
              clear w1
              omega
            have w4 : wrap64 ((i : Int) + (mk.size : Int)) = ((i + mk.size : Nat) : Int) := by rw [b_w64 (by omega) (by omega)]; omega
            obtain ⟨R, hR, h1, h2⟩ := IH (i + mk.size) (out ++ [(⟨3, mk, 0⟩ : SgT)]) (by omega) z3 (by simp; omega) (ok_app hk ⟨by show mk.size ≤ _; omega, wf_zero⟩)
            refine ⟨R, hR, headS false _ hb.symm (ev_s2 hS h1 fun k h h' => ?_), headI false _ hb.symm (ev_s2 hI h2 fun k h h' => ?_)⟩
            · rw [spec_SignsOf.j1, if_neg (by decide), if_pos q2, if_pos q1, spec_letter_is, spec_figure_is, hle, hfi, Option.bind_some, if_neg (by decide), Option.bind_some, if_neg (by decide), h, Option.bind_some, if_neg em, if_pos ol, w4]
              exact h'
            · rw [impl_SignsOf.j1, if_neg (by decide), impl_letter_is, impl_figure_is, hle, hfi, Option.bind_some, if_neg (by decide), Option.bind_some, if_neg (by decide), h, Option.bind_some, if_neg em, if_pos ol, w4]
              exact h'
theorem signs_ev (s : ByteArray) : ∃ R : List SgT × Bool, (R.1.length ≤ 3000 ∧ ∀ x ∈ R.1, sgOk x) ∧ Ev (fun k => spec_SignsOf.f k s) R ∧ Ev (fun k => impl_SignsOf.f k s) R := by
  by_cases c : (s.size : Int) > 3000
  · refine ⟨([], false), ⟨by simp, fun x hx => by simp at hx⟩, ev_a0 fun k => ?_, ev_a0 fun k => ?_⟩
    · rw [spec_SignsOf.f, Option.bind_some, if_pos c]
    · rw [impl_SignsOf.f, if_pos c]
  · obtain ⟨R, hR, h1, h2⟩ := signs_both s (by omega) s.size 0 [] (by omega) (by omega) (by simp) (fun x hx => by simp at hx)
    refine ⟨R, hR, ev_a1 h1 fun k h => ?_, ev_a1 h2 fun k h => ?_⟩
    · rw [spec_SignsOf.f, Option.bind_some, if_neg c]; exact h
    · rw [impl_SignsOf.f, if_neg c]; exact h

open Given
def decD (m : Nat) : List UInt8 := if m = 0 then [] else Lib.decDigits m
theorem decD_step (m : Nat) (h : m ≠ 0) : decD m = decD (m / 10) ++ [UInt8.ofNat (48 + m % 10)] := by
  unfold decD
  rw [if_neg h, Lib.decDigits]
  by_cases c : m < 10
  · have e : m / 10 = 0 := by omega
    have e2 : m % 10 = m := by omega
    rw [dif_pos c, e, e2]
    simp
  · have e : ¬ m / 10 = 0 := by omega
    rw [dif_neg c, if_neg e]
theorem one_char (d : Nat) (h : d < 10) : (strOfNums [((48 + d : Nat) : Int)]).data.toList = [UInt8.ofNat (48 + d)] := by
  have : d = 0 ∨ d = 1 ∨ d = 2 ∨ d = 3 ∨ d = 4 ∨ d = 5 ∨ d = 6 ∨ d = 7 ∨ d = 8 ∨ d = 9 := by omega
  rcases this with h | h | h | h | h | h | h | h | h | h <;> subst h <;> rfl
theorem spec_figc (d : Nat) (h : d < 10) : spec_l01Figure.f (d : Int) = some ((48 + d : Nat) : Int) := by
  have e : wrap64 (48 + (d : Int)) % 256 = ((48 + d : Nat) : Int) := by rw [b_w64 (by omega) (by omega)]; omega
  rw [spec_l01Figure.f, if_pos (by omega), e]
def sgnI (neg : Bool) (m : Nat) : Int := if neg = true then -(m : Int) else (m : Int)
theorem sgn_div (neg : Bool) (m : Nat) (h : m ≤ 9223372036854775808) : wrap64 (Int.tdiv (sgnI neg m) 10) = sgnI neg (m / 10) := by
  have e : Int.tdiv (m : Int) 10 = ((m / 10 : Nat) : Int) := by rw [b_tdiv (by omega)]; omega
  cases neg
  · show wrap64 (Int.tdiv (m : Int) 10) = ((m / 10 : Nat) : Int)
    rw [e]; exact b_w64 (by omega) (by omega)
  · show wrap64 (Int.tdiv (-(m : Int)) 10) = -((m / 10 : Nat) : Int)
    rw [Int.neg_tdiv, e]; exact b_w64 (by omega) (by omega)
theorem sgn_mod (neg : Bool) (m : Nat) : Int.tmod (sgnI neg m) 10 = sgnI neg (m % 10) := by
  have e : Int.tmod (m : Int) 10 = ((m % 10 : Nat) : Int) := by rw [b_tmod (by omega)]; omega
  cases neg
  · exact e
  · show Int.tmod (-(m : Int)) 10 = -((m % 10 : Nat) : Int)
    rw [Int.neg_tmod, e]
theorem dec_l0 (neg : Bool) : ∀ (d m : Nat) (s : ByteArray), m < 10 ^ d → m ≤ 9223372036854775808 → s.size + d ≤ 1000 →
    ∃ R : ByteArray, Ev (fun k => spec_Decimal.l0 k (sgnI neg m) neg s) R ∧ R.data.toList = (if neg = true then [45] else []) ++ (decD m ++ s.data.toList) := by
  have base : ∀ s : ByteArray, s.size ≤ 1000 → ∃ R : ByteArray, Ev (fun k => spec_Decimal.l0 k (sgnI neg 0) neg s) R ∧ R.data.toList = (if neg = true then [45] else []) ++ (decD 0 ++ s.data.toList) := by
    intro s hs
    have e0 : sgnI neg 0 = 0 := by cases neg <;> rfl
    rw [e0]
    cases neg
    · exact ⟨s, ev_s0 fun k => by rw [spec_Decimal.l0, if_pos rfl, if_neg (by decide)], by simp [decD]⟩
    · exact ⟨(⟨#[45]⟩ : ByteArray) ++ s, ev_s0 fun k => by rw [spec_Decimal.l0, if_pos rfl, if_pos rfl, if_pos (by omega)], by simp [decD, ByteArray.data_append]⟩
  intro d
  induction d with
  | zero =>
    intro m s h h1 hs
    have : m = 0 := by omega
    subst this
    exact base s (by omega)
  | succ d ih =>
    intro m s h h1 hs
    by_cases c : m = 0
    · subst c
      exact base s (by omega)
    · have hd : m / 10 < 10 ^ d := by rw [Nat.div_lt_iff_lt_mul (by decide), ← Nat.pow_succ]; exact h
      have hsz : (strOfNums [((48 + m % 10 : Nat) : Int)]).size = 1 := by rw [strOfNums_size]; rfl
      have hm10 : m % 10 < 10 := Nat.mod_lt _ (by decide)
      obtain ⟨R, E, hR⟩ := ih (m / 10) (strOfNums [((48 + m % 10 : Nat) : Int)] ++ s) hd (by omega) (by rw [ByteArray.size_append, hsz]; omega)
      refine ⟨R, ev_s1 E fun k e => ?_, ?_⟩
      · have n0 : ¬ sgnI neg m = 0 := by cases neg <;> simp [sgnI] <;> omega
        have hz : 1 + s.size ≤ 9223372036854775807 := by omega
        rw [spec_Decimal.l0, if_neg n0, sgn_mod, sgn_div neg m h1]
        by_cases q : sgnI neg (m % 10) < 0
        · have e1 : wrap64 (-(sgnI neg (m % 10))) = ((m % 10 : Nat) : Int) := by
            cases neg
            · exact absurd q (by simp [sgnI]; omega)
            · show wrap64 (- -((m % 10 : Nat) : Int)) = _
              rw [Int.neg_neg]; exact b_w64 (by omega) (by omega)
          rw [if_pos q, e1, spec_figc _ hm10, Option.bind_some, Option.bind_some, hsz, if_pos hz]
          exact e
        · have e1 : sgnI neg (m % 10) = ((m % 10 : Nat) : Int) := by
            cases neg
            · rfl
            · have : m % 10 = 0 := by simp [sgnI] at q; omega
              rw [this]; rfl
          rw [if_neg q, e1, spec_figc _ hm10, Option.bind_some, Option.bind_some, hsz, if_pos hz]
          exact e
      · rw [hR, ByteArray.data_append, Array.toList_append, one_char _ hm10, decD_step m c, List.append_assoc]
theorem spec_Decimal_ev (n : Int) (h : (Lit.int .i64 n).wf = true) : ∃ R : ByteArray, Ev (fun k => spec_Decimal.f k n) R ∧ R.data.toList = Lib.itoa n := by
  have hb := b_i64 h
  by_cases c : n = 0
  · subst c
    exact ⟨⟨#[48]⟩, ev_a0 fun k => by rw [spec_Decimal.f, if_pos rfl], by rw [Lib.itoa, if_neg (by decide), show (0 : Int).toNat = 0 from rfl, Lib.decDigits_one (by decide)]; rfl⟩
  · obtain ⟨R, E, hR⟩ := dec_l0 (decide (n < 0)) 20 n.natAbs ⟨#[]⟩ (by omega) (by omega) (by decide)
    have e : sgnI (decide (n < 0)) n.natAbs = n := by
      unfold sgnI
      by_cases q : n < 0
      · rw [if_pos (decide_eq_true q)]; omega
      · rw [if_neg (by simp [q])]; omega
    rw [e] at E
    refine ⟨R, ev_a1 E fun k e => by rw [spec_Decimal.f, if_neg c]; exact e, ?_⟩
    have n0 : ¬ n.natAbs = 0 := by omega
    rw [hR, Lib.itoa, decD, if_neg n0]
    by_cases q : n < 0
    · rw [if_pos (decide_eq_true q), if_pos q]; simp
    · rw [if_neg (by simp [q]), if_neg q, show n.toNat = n.natAbs by omega]; simp

theorem impl_Decimal_is (n : Int) (h : (Lit.int .i64 n).wf = true) : impl_Decimal.f n = some ⟨(Lib.itoa n).toArray⟩ := by
  rw [impl_Decimal.f, strconv_Itoa.f, if_pos (b_i64 h)]; rfl

theorem w_succ2 {i : Nat} (h : i < 9223372036854775807) : wrap64 ((i : Int) + 1) = ((i + 1 : Nat) : Int) := by unfold wrap64; omega
def pieceB (x : SgT) : ByteArray := if x.f0 = 2 then ⟨(Lib.itoa (mx x.f2 0)).toArray⟩ else x.f1
def pieceL (x : SgT) : List UInt8 := (pieceB x).data.toList
theorem mx_wf (n : Int) (h : (Lit.int .i64 n).wf = true) : (Lit.int .i64 (mx n 0)).wf = true := by
  unfold mx
  split
  · decide
  · exact h
theorem pieceL_len (x : SgT) (h : sgOk x) : (pieceL x).length ≤ 1048576 := by
  unfold pieceL pieceB
  split
  · have b := b_i64 (mx_wf x.f2 h.2)
    have := Lib.itoa_length_le (mx x.f2 0) b.1 b.2
    show (Lib.itoa (mx x.f2 0)).toArray.toList.length ≤ 1048576
    rw [List.toList_toArray]
    omega
  · exact h.1
theorem lens_le : ∀ ps : List (List UInt8), (∀ p ∈ ps, p.length ≤ 1048576) → Lib.lens ps ≤ ps.length * 1048576
  | [], _ => by simp [Lib.lens]
  | p :: r, h => by
    have ih := lens_le r (fun q hq => h q (by simp [hq]))
    have hp := h p (by simp)
    have e : Lib.lens (p :: r) = p.length + Lib.lens r := by simp [Lib.lens]
    rw [e, List.length_cons]
    omega
theorem join_le (ps : List (List UInt8)) (h : ∀ p ∈ ps, p.length ≤ 1048576) : (Lib.join ps [32]).length ≤ ps.length * 1048577 := by
  cases ps with
  | nil => simp [Lib.join_nil]
  | cons p r =>
    have := lens_le (p :: r) h
    have e := Lib.join_length p r [32]
    have e1 : ([32] : List UInt8).length = 1 := rfl
    rw [e, e1]
    simp only [List.length_cons] at this ⊢
    omega
theorem join_zero (ps : List (List UInt8)) (h : 0 < ps.length) : Lib.join (ps.take 1) [32] = ps[0] := by
  cases ps with
  | nil => simp at h
  | cons p r => simp [Lib.join_one]
theorem join_succ (ps : List (List UInt8)) (i : Nat) (hi : i < ps.length) (h0 : 0 < i) : Lib.join (ps.take (i + 1)) [32] = Lib.join (ps.take i) [32] ++ [32] ++ ps[i] := by
  cases ps with
  | nil => simp at hi
  | cons p r =>
    obtain ⟨j, rfl⟩ : ∃ j, i = j + 1 := ⟨i - 1, by omega⟩
    have hj : j < r.length := by simpa using hi
    rw [List.take_succ_cons, List.take_succ_cons, Lib.join_cons, Lib.join_cons, Lib.joinTail_take_succ [32] r j r[j] (List.getElem?_eq_getElem hj)]
    simp
theorem spec_dec_of (n : Int) (h : (Lit.int .i64 n).wf = true) : ∃ R : ByteArray, Ev (fun k => spec_Decimal.f k n) R ∧ R.data.toList = Lib.itoa n := spec_Decimal_ev n h
theorem spec_txt_l0 (xs : List SgT) (hl : xs.length ≤ 1048576) (hp : ∀ x ∈ xs, sgOk x) : ∀ (d i : Nat) (s : ByteArray), i + d = xs.length → s.data.toList = Lib.join ((xs.map pieceL).take i) [32] →
    ∃ R : ByteArray, Ev (fun k => spec_SignText.l0 k xs s (i : Int)) R ∧ R.data.toList = Lib.join (xs.map pieceL) [32]
  | 0, i, s, h, hs => ⟨s, ev_s0 fun k => by rw [spec_SignText.l0, if_neg (by omega)], by rw [hs, List.take_of_length_le (by simp; omega)]⟩
  | d + 1, i, s, h, hs => by
    have hi : i < xs.length := by omega
    have him : i < (xs.map pieceL).length := by simpa using hi
    have ok := hp xs[i] (List.getElem_mem hi)
    have hss : s.size ≤ 1099512676352 := by
      have e : s.data.toList.length = s.size := rfl
      rw [← e, hs]
      have := join_le ((xs.map pieceL).take i) (fun p hp' => by
        obtain ⟨y, hy, rfl⟩ := List.mem_map.mp (List.mem_of_mem_take hp')
        exact pieceL_len y (hp y hy))
      rw [List.length_take] at this
      omega
    have hpl := pieceL_len xs[i] ok
    -- the blank ahead of what is not first
    obtain ⟨s1, hs1, hz, head⟩ : ∃ s1 : ByteArray, s1.data.toList ++ pieceL xs[i] = Lib.join ((xs.map pieceL).take (i + 1)) [32] ∧ s1.size ≤ 1099512676353 ∧
        ∀ R : ByteArray, Ev (fun k => spec_SignText.j1 k xs s1 (i : Int)) R → Ev (fun k => spec_SignText.l0 k xs s (i : Int)) R := by
      by_cases c : i = 0
      · subst c
        refine ⟨s, ?_, by omega, fun R H => ev_s1 H fun k e => ?_⟩
        · rw [hs, join_zero _ him]; simp [Lib.join_nil]
        · rw [spec_SignText.l0, if_pos (by omega), if_neg (by omega)]; exact e
      · refine ⟨s ++ (⟨#[32]⟩ : ByteArray), ?_, ?_, fun R H => ev_s1 H fun k e => ?_⟩
        · rw [ByteArray.data_append, Array.toList_append, hs, join_succ _ i him (by omega)]; simp
        · rw [ByteArray.size_append]; have : (⟨#[32]⟩ : ByteArray).size = 1 := rfl
          omega
        · rw [spec_SignText.l0, if_pos (by omega), if_pos (by omega), if_pos (by omega)]; exact e
    obtain ⟨p, E, hpd⟩ : ∃ p : ByteArray, p.data.toList = pieceL xs[i] ∧ (∀ R : ByteArray, Ev (fun k => spec_SignText.l0 k xs (s1 ++ p) ((i + 1 : Nat) : Int)) R → Ev (fun k => spec_SignText.j1 k xs s1 (i : Int)) R) := by
      have w := w_succ (i := i) (by omega)
      have q1 : (0 : Int) ≤ (i : Int) := by omega
      have q2 : (i : Int) < (xs.length : Int) := by omega
      by_cases c : xs[i].f0 = 2
      · by_cases c2 : xs[i].f2 < 0
        · obtain ⟨t, T, ht⟩ := spec_dec_of 0 (by decide)
          have e0 : pieceL xs[i] = Lib.itoa 0 := by
            unfold pieceL pieceB mx
            rw [if_pos c, if_pos c2]
          have htz : t.size ≤ 1048576 := by
            have e : t.data.toList.length = t.size := rfl
            rw [← e, ht, ← e0]; exact hpl
          refine ⟨t, by rw [ht, e0], fun R H => ev_s2 T H fun k e e' => ?_⟩
          rw [spec_SignText.j1, if_pos q1, if_pos q2, rdG_nat xs i hi, if_pos c, if_pos c2, e, Option.bind_some, if_pos (by omega), w]
          exact e'
        · obtain ⟨t, T, ht⟩ := spec_dec_of xs[i].f2 ok.2
          have e0 : pieceL xs[i] = Lib.itoa xs[i].f2 := by
            unfold pieceL pieceB mx
            rw [if_pos c, if_neg c2]
          have htz : t.size ≤ 1048576 := by
            have e : t.data.toList.length = t.size := rfl
            rw [← e, ht, ← e0]; exact hpl
          refine ⟨t, by rw [ht, e0], fun R H => ev_s2 T H fun k e e' => ?_⟩
          rw [spec_SignText.j1, if_pos q1, if_pos q2, rdG_nat xs i hi, if_pos c, if_neg c2, e, Option.bind_some, if_pos (by omega), w]
          exact e'
      · have e0 : pieceL xs[i] = xs[i].f1.data.toList := by
          unfold pieceL pieceB
          rw [if_neg c]
        have htz := ok.1
        refine ⟨xs[i].f1, e0.symm, fun R H => ev_s1 H fun k e' => ?_⟩
        rw [spec_SignText.j1, if_pos q1, if_pos q2, rdG_nat xs i hi, if_neg c, if_pos (by omega), w]
        exact e'
    obtain ⟨R, H, hR⟩ := spec_txt_l0 xs hl hp d (i + 1) (s1 ++ p) (by omega) (by rw [ByteArray.data_append, Array.toList_append, E, hs1])
    exact ⟨R, head R (hpd R H), hR⟩
theorem spec_SignText_ev (xs : List SgT) (hl : xs.length ≤ 1048576) (hp : ∀ x ∈ xs, sgOk x) : ∃ R : ByteArray, Ev (fun k => spec_SignText.f k xs) R ∧ R.data.toList = Lib.join (xs.map pieceL) [32] := by
  obtain ⟨R, H, hR⟩ := spec_txt_l0 xs hl hp xs.length 0 ⟨#[]⟩ (by omega) (by simp [Lib.join_nil])
  exact ⟨R, ev_a1 H fun k e => e, hR⟩
theorem impl_txt_l0 (xs : List SgT) (hl : xs.length ≤ 1048576) (hp : ∀ x ∈ xs, sgOk x) : ∀ (d i : Nat), i + d = xs.length →
    Ev (fun k => impl_SignText.l0 k ((xs.map pieceB).take i) xs (xs.length : Int) (i : Int)) ⟨(Lib.join (xs.map pieceL) [32]).toArray⟩
  | 0, i, h => ev_s0 fun k => by
    have e1 : (xs.map pieceB).take i = xs.map pieceB := List.take_of_length_le (by simp; omega)
    have e2 : (xs.map pieceB).map (fun x => x.data.toList) = xs.map pieceL := by rw [List.map_map]; rfl
    have hj := join_le (xs.map pieceL) (fun p hp' => by
        obtain ⟨y, hy, rfl⟩ := List.mem_map.mp hp'
        exact pieceL_len y (hp y hy))
    rw [List.length_map] at hj
    have e3 : (⟨#[32]⟩ : ByteArray).data.toList = [32] := rfl
    rw [impl_SignText.l0, if_neg (by omega), e1, strings_Join.f, e2, e3, if_pos ⟨by rw [List.length_map]; omega, by omega⟩]
    rfl
  | d + 1, i, h => by
    have hi : i < xs.length := by omega
    have him : i < (xs.map pieceB).length := by simpa using hi
    have ok := hp xs[i] (List.getElem_mem hi)
    have e0 : (xs.map pieceB).take (i + 1) = (xs.map pieceB).take i ++ [pieceB xs[i]] := by
      rw [List.take_succ_eq_append_getElem him]; simp
    have hlen : ((xs.map pieceB).take i).length < 8796093022208 := by rw [List.length_take]; omega
    refine ev_s1 (impl_txt_l0 xs hl hp d (i + 1) (by omega)) fun k e => ?_
    rw [e0] at e
    rw [impl_SignText.l0, if_pos (by omega), if_pos (by omega), if_pos (by omega), rdG_nat xs i hi, w_succ (by omega)]
    by_cases c : xs[i].f0 = 2
    · have e1 : pieceB xs[i] = ⟨(Lib.itoa (mx xs[i].f2 0)).toArray⟩ := by unfold pieceB; rw [if_pos c]
      rw [if_pos c, impl_Decimal_is _ (mx_wf _ ok.2), Option.bind_some, if_pos hlen, ← e1]
      exact e
    · have e1 : pieceB xs[i] = xs[i].f1 := by unfold pieceB; rw [if_neg c]
      rw [if_neg c, if_pos hlen, ← e1]
      exact e
theorem impl_SignText_ev (xs : List SgT) (hl : xs.length ≤ 1048576) (hp : ∀ x ∈ xs, sgOk x) : Ev (fun k => impl_SignText.f k xs) ⟨(Lib.join (xs.map pieceL) [32]).toArray⟩ :=
  ev_a1 (impl_txt_l0 xs hl hp xs.length 0 (by omega)) fun k e => by
    have e' : impl_SignText.l0 k ((xs.map pieceB).take 0) xs (xs.length : Int) ((0 : Nat) : Int) = some ⟨(Lib.join (xs.map pieceL) [32]).toArray⟩ := e
    rw [List.take_zero] at e'
    exact e'

theorem drop_bt {s : ByteArray} {i : Nat} {L : List Int} (h : (nl s.data.toList).drop i = L) (t : Nat) : bt s ((i + t : Nat) : Int) = L.getD t 0 := by
  rw [bt_nl, ← h, List.getD_eq_getElem?_getD, List.getD_eq_getElem?_getD, List.getElem?_drop]
theorem drop_size {s : ByteArray} {i : Nat} {L : List Int} (h : (nl s.data.toList).drop i = L) : L.length = s.size - i := by
  rw [← h, List.length_drop, nl_len]
theorem drop_more {T : List Int} {i : Nat} {a M : List Int} (h : T.drop i = a ++ M) : T.drop (i + a.length) = M := by
  have e := congrArg (List.drop a.length) h
  rw [List.drop_drop] at e
  simpa [Nat.add_comm] using e
theorem nl_take (l : List UInt8) (n : Nat) : nl (l.take n) = (nl l).take n := by simp [nl, List.map_take]
theorem nl_drop (l : List UInt8) (n : Nat) : nl (l.drop n) = (nl l).drop n := by simp [nl, List.map_drop]
theorem nl_inj {a b : List UInt8} (h : nl a = nl b) : a = b := by
  have e : strOfNums (nl a) = strOfNums (nl b) := by rw [h]
  unfold nl at e
  rw [Lib.Lz.strOfNums_map, Lib.Lz.strOfNums_map] at e
  have e2 := congrArg (fun z : ByteArray => z.data.toList) e
  simpa using e2
theorem ext_nl (s : ByteArray) (i n : Nat) : nl (s.extract i (i + n)).data.toList = ((nl s.data.toList).drop i).take n := by
  rw [← Lib.toList_data, Lib.extract_toList, nl_take, nl_drop, show i + n - i = n by omega]
theorem cut_eq {s : ByteArray} {i : Nat} {a M : List Int} (h : (nl s.data.toList).drop i = a ++ M) : s.extract i (i + a.length) = strOfNums a := by
  have e := str_nl (s.extract i (i + a.length))
  rw [← e, ext_nl, h, List.take_left']
  rfl
def Stop (M : List Int) : Prop := M = [] ∨ ∃ M', M = 32 :: M'
theorem wEnd_run (s : ByteArray) (lt : Bool) : ∀ (w : List Int) (j : Nat) (M : List Int), (nl s.data.toList).drop j = w ++ M → (∀ x ∈ w, (isFi x || (lt && isLe x)) = true) → Stop M → wEnd s lt (s.size - j) j = j + w.length
  | [], j, M, h, hw, hM => by
    have hz := drop_size h
    rcases hM with rfl | ⟨M', rfl⟩
    · have e : s.size - j = 0 := by simpa using hz.symm
      rw [e, wEnd]
      rfl
    · have e : s.size - j = M'.length + 1 := by simpa using hz.symm
      have b := drop_bt h 0
      rw [Nat.add_zero] at b
      have b' : bt s (j : Int) = 32 := b
      rw [e, wEnd, b', if_neg (by cases lt <;> decide)]
      rfl
  | a :: w, j, M, h, hw, hM => by
    have hz := drop_size h
    have e : s.size - j = (w ++ M).length + 1 := by simpa using hz.symm
    have b := drop_bt h 0
    rw [Nat.add_zero] at b
    have b' : bt s (j : Int) = a := b
    have h2 : (nl s.data.toList).drop (j + 1) = w ++ M := drop_more (a := [a]) h
    have ih := wEnd_run s lt w (j + 1) M h2 (fun x hx => hw x (by simp [hx])) hM
    rw [e, wEnd, b', if_pos (hw a (by simp))]
    have e2 : s.size - (j + 1) = (w ++ M).length := by omega
    rw [e2] at ih
    rw [ih, List.length_cons]
    omega
theorem blank_step (s : ByteArray) (hs : s.size ≤ 3000) (b : Int) (hb : b = 32 ∨ b = 10) (M : List Int) (out : List SgT) (i : Nat) (h : (nl s.data.toList).drop i = b :: M) (R : List SgT × Bool)
    (H : Ev (fun k => impl_SignsOf.l0 k s out ((i + 1 : Nat) : Int)) R) : Ev (fun k => impl_SignsOf.l0 k s out (i : Int)) R := by
  have hz := drop_size h
  rw [List.length_cons] at hz
  have b0 := drop_bt h 0
  rw [Nat.add_zero] at b0
  have b' : bt s (i : Int) = b := b0
  have q1 : (i : Int) < (s.size : Int) := by omega
  have q2 : (0 : Int) ≤ (i : Int) := by omega
  have w1 : wrap64 ((i : Int) + 1) = ((i + 1 : Nat) : Int) := by rw [b_w64 (by omega) (by omega)]; omega
  have J : Ev (fun k => impl_SignsOf.j1 k s out (i : Int) (bt s (i : Int)) true) R := ev_s1 H fun k e => by rw [impl_SignsOf.j1, if_pos rfl, w1]; exact e
  refine ev_s1 J fun k e => ?_
  rw [impl_SignsOf.l0, if_pos q1, if_pos q2]
  rw [b'] at e ⊢
  rcases hb with rfl | rfl
  · rw [if_pos rfl]; exact e
  · rw [if_neg (by decide)]; exact e
theorem sign_head (s : ByteArray) (out : List SgT) (i : Nat) (x : Int) (hi : i < s.size) (hx : bt s (i : Int) = x) (h32 : x ≠ 32) (h10 : x ≠ 10) (R : List SgT × Bool)
    (H : Ev (fun k => impl_SignsOf.j1 k s out (i : Int) x false) R) : Ev (fun k => impl_SignsOf.l0 k s out (i : Int)) R := by
  have q1 : (i : Int) < (s.size : Int) := by omega
  have q2 : (0 : Int) ≤ (i : Int) := by omega
  refine ev_s1 H fun k e => ?_
  rw [impl_SignsOf.l0, if_pos q1, if_pos q2, hx, if_neg h32, show (x == 10) = false from beq_eq_false_iff_ne.mpr h10]
  exact e
theorem le_not {x : Int} (h : isLe x = true) : x ≠ 32 ∧ x ≠ 10 := by
  unfold isLe at h
  have := of_decide_eq_true h
  omega
theorem fi_not {x : Int} (h : isFi x = true) : x ≠ 32 ∧ x ≠ 10 ∧ isLe x = false := by
  unfold isFi at h
  have := of_decide_eq_true h
  refine ⟨by omega, by omega, ?_⟩
  unfold isLe
  rw [decide_eq_false_iff_not]
  omega
theorem word_step (s : ByteArray) (hs : s.size ≤ 3000) (x : Int) (a : List Int) (hx : isLe x = true) (ha : ∀ y ∈ a, (isFi y || (true && isLe y)) = true) (h8 : a.length ≤ 7) (M : List Int) (hM : Stop M)
    (out : List SgT) (i : Nat) (h : (nl s.data.toList).drop i = (x :: a) ++ M) (ho : out.length ≤ i) (R : List SgT × Bool)
    (H : Ev (fun k => impl_SignsOf.l0 k s (out ++ [(⟨1, strOfNums (x :: a), 0⟩ : SgT)]) ((i + (x :: a).length : Nat) : Int)) R) : Ev (fun k => impl_SignsOf.l0 k s out (i : Int)) R := by
  have hz := drop_size h
  rw [List.length_append, List.length_cons] at hz
  have hi : i < s.size := by omega
  have b0 := drop_bt h 0
  rw [Nat.add_zero] at b0
  have b' : bt s (i : Int) = x := b0
  have nx := le_not hx
  have wr := wEnd_run s true (x :: a) i M h (by
    intro y hy
    rcases List.mem_cons.1 hy with e | hy
    · rw [e, hx]; simp
    · exact ha y hy) hM
  have wE := impl_wordEnd_ev s hs true i (by omega)
  rw [wr] at wE
  have hl : (x :: a).length = a.length + 1 := rfl
  have cut := cut_eq h
  generalize hn : i + (x :: a).length = e at *
  have w2 : wrap64 ((e : Int) - (i : Int)) = (e : Int) - (i : Int) := b_w64 (by omega) (by omega)
  have c8 : ¬ (e : Int) - (i : Int) > 8 := by omega
  have q2 : (0 : Int) ≤ (i : Int) := by omega
  have p1 : (i : Int) ≤ (e : Int) := by omega
  have p2 : (e : Int) ≤ (s.size : Int) := by omega
  have ol : out.length < 4398046511104 := by omega
  refine sign_head s out i x hi b' nx.1 nx.2 R (ev_s2 wE H fun k h1 h2 => ?_)
  rw [impl_SignsOf.j1, if_neg (by decide), impl_letter_is, hx, Option.bind_some, if_pos rfl, h1, Option.bind_some, w2, if_neg c8, if_pos q2, if_pos p1, if_pos p2, if_pos ol, Int.toNat_natCast, Int.toNat_natCast, cut]
  exact h2
theorem numV_same (s : ByteArray) (i : Nat) (a M : List Int) (h : (nl s.data.toList).drop i = a ++ M) (hr : ∀ x ∈ a, 0 ≤ x ∧ x ≤ 255) : ∀ d, d ≤ a.length → numV s i d = numV (strOfNums a) 0 d
  | 0, _ => rfl
  | d + 1, hd => by
    rw [numV, numV, numV_same s i a M h hr d (by omega), drop_bt h d, Nat.zero_add, bt_nl, nl_str a hr]
    congr 2
    rw [List.getD_eq_getElem?_getD, List.getD_eq_getElem?_getD, List.getElem?_append_left (by omega)]
theorem num_sstep (s : ByteArray) (hs : s.size ≤ 3000) (x : Int) (a : List Int) (hx : isFi x = true) (ha : ∀ y ∈ a, isFi y = true) (h10 : a.length ≤ 9) (n : Int) (hn : numV (strOfNums (x :: a)) 0 (x :: a).length = n) (hle : n ≤ 1000000000) (M : List Int) (hM : Stop M)
    (out : List SgT) (i : Nat) (h : (nl s.data.toList).drop i = (x :: a) ++ M) (ho : out.length ≤ i) (R : List SgT × Bool)
    (H : Ev (fun k => impl_SignsOf.l0 k s (out ++ [(⟨2, (⟨#[]⟩ : ByteArray), n⟩ : SgT)]) ((i + (x :: a).length : Nat) : Int)) R) : Ev (fun k => impl_SignsOf.l0 k s out (i : Int)) R := by
  have hz := drop_size h
  rw [List.length_append, List.length_cons] at hz
  have hi : i < s.size := by omega
  have b0 := drop_bt h 0
  rw [Nat.add_zero] at b0
  have b' : bt s (i : Int) = x := b0
  have nx := fi_not hx
  have hall : ∀ y ∈ x :: a, isFi y = true := by
    intro y hy
    rcases List.mem_cons.1 hy with e | hy
    · rw [e]; exact hx
    · exact ha y hy
  have hr : ∀ y ∈ x :: a, 0 ≤ y ∧ y ≤ 255 := fun y hy => by have := fig_range (hall y hy); omega
  have wr := wEnd_run s false (x :: a) i M h (fun y hy => by rw [hall y hy]; rfl) hM
  have wE := impl_wordEnd_ev s hs false i (by omega)
  rw [wr] at wE
  have hl : (x :: a).length = a.length + 1 := rfl
  have hf : ∀ t, i ≤ t → t < i + (x :: a).length → isFi (bt s (t : Int)) = true := by
    intro t h1 h2
    obtain ⟨d, rfl⟩ : ∃ d, t = i + d := ⟨t - i, by omega⟩
    rw [drop_bt h d]
    have hd : d < (x :: a).length := by omega
    rw [List.getD_eq_getElem?_getD, List.getElem?_append_left hd, List.getElem?_eq_getElem hd]
    exact hall _ (List.getElem_mem _)
  have hnum := impl_number_ev s i (x :: a).length hs (by omega) hf (by omega)
  rw [show min (x :: a).length 10 = (x :: a).length by omega, numV_same s i (x :: a) M h hr _ (Nat.le_refl _), hn] at hnum
  have dl : decide ((x :: a).length ≤ 10) = true := decide_eq_true (by omega)
  rw [dl, decide_eq_true hle] at hnum
  clear hn hf wr
  generalize hq : i + (x :: a).length = e at *
  have q2 : (0 : Int) ≤ (i : Int) := by omega
  have p1 : (i : Int) ≤ (e : Int) := by omega
  have p2 : (e : Int) ≤ (s.size : Int) := by omega
  have ol : out.length < 4398046511104 := by omega
  refine sign_head s out i x hi b' nx.1 nx.2.1 R (ev_s3 wE hnum H fun k h1 h2 h3 => ?_)
  rw [impl_SignsOf.j1, if_neg (by decide), impl_letter_is, nx.2.2, Option.bind_some, if_neg (by decide), impl_figure_is, hx, Option.bind_some, if_pos rfl, h1, Option.bind_some, if_pos q2, if_pos p1, if_pos p2, Int.toNat_natCast, Int.toNat_natCast, h2, Option.bind_some, if_pos (show (n, true && true).2 = true from rfl), if_pos ol]
  exact h3
def fM (L : List Int) : List ByteArray → ByteArray
  | [] => ⟨#[]⟩
  | m :: r => if (nl m.data.toList).isPrefixOf L = true then m else fM L r
theorem fMark_fM (s : ByteArray) (i : Nat) (hi : i ≤ s.size) (L : List Int) (h : (nl s.data.toList).drop i = L) : ∀ l : List ByteArray, fMark s i l = fM L l
  | [] => rfl
  | m :: r => by
    have hz := drop_size h
    rw [fMark, fM, fMark_fM s i hi L h r]
    have e : (decide (i + m.size ≤ s.size) && decide ((s.extract i (i + m.size)).toList = m.toList)) = (nl m.data.toList).isPrefixOf L := by
      rw [Bool.eq_iff_iff, Bool.and_eq_true, decide_eq_true_eq, decide_eq_true_eq, List.isPrefixOf_iff_prefix, List.prefix_iff_eq_take, nl_len]
      have ex := ext_nl s i m.size
      rw [h] at ex
      constructor
      · rintro ⟨_, h2⟩
        rw [Lib.toList_data, Lib.toList_data] at h2
        rw [← h2]; exact ex
      · intro h1
        have hlen := congrArg List.length h1
        rw [nl_len, List.length_take] at hlen
        refine ⟨by omega, ?_⟩
        rw [Lib.toList_data, Lib.toList_data]
        exact nl_inj (ex.trans h1.symm)
    rw [e]
theorem mark_step (s : ByteArray) (hs : s.size ≤ 3000) (m : ByteArray) (x : Int) (a : List Int) (hm : nl m.data.toList = x :: a) (M : List Int) (hf : fM ((x :: a) ++ M) theMarks = m) (hx : x ≠ 32 ∧ x ≠ 10 ∧ isLe x = false ∧ isFi x = false) (ha : a.length ≤ 1)
    (out : List SgT) (i : Nat) (h : (nl s.data.toList).drop i = (x :: a) ++ M) (ho : out.length ≤ i) (R : List SgT × Bool)
    (H : Ev (fun k => impl_SignsOf.l0 k s (out ++ [(⟨3, m, 0⟩ : SgT)]) ((i + (x :: a).length : Nat) : Int)) R) : Ev (fun k => impl_SignsOf.l0 k s out (i : Int)) R := by
  have hz := drop_size h
  rw [List.length_append, List.length_cons] at hz
  have hi : i < s.size := by omega
  have b0 := drop_bt h 0
  rw [Nat.add_zero] at b0
  have b' : bt s (i : Int) = x := b0
  have hI := impl_mark_ev s hs i (by omega)
  rw [fMark_fM s i (by omega) _ h, hf] at hI
  have msz : m.size = (x :: a).length := by rw [← hm, nl_len]
  have em : ¬ m.toList = ([] : List UInt8) := by
    intro z
    rw [Lib.toList_data] at z
    rw [z] at hm
    simp [nl] at hm
  have hl : (x :: a).length = a.length + 1 := rfl
  have ol : out.length < 4398046511104 := by omega
  have w4 : wrap64 ((i : Int) + (m.size : Int)) = ((i + (x :: a).length : Nat) : Int) := by rw [msz, b_w64 (by omega) (by omega)]; omega
  refine sign_head s out i x hi b' hx.1 hx.2.1 R (ev_s2 hI H fun k h1 h2 => ?_)
  rw [impl_SignsOf.j1, if_neg (by decide), impl_letter_is, hx.2.2.1, Option.bind_some, if_neg (by decide), impl_figure_is, hx.2.2.2, Option.bind_some, if_neg (by decide), h1, Option.bind_some, if_neg em, if_pos ol, w4]
  exact h2
def theWords : List ByteArray := [⟨#[102, 110]⟩, ⟨#[97]⟩, ⟨#[108, 101, 116]⟩, ⟨#[97, 98, 99, 49, 50, 51, 52, 53]⟩, ⟨#[120, 49]⟩]
def theNums : List Int := [0, 7, 1000000000]
def Good (g : SgT) : Prop := (∃ w ∈ theWords, g = ⟨1, w, 0⟩) ∨ (∃ n ∈ theNums, g = ⟨2, (⟨#[]⟩ : ByteArray), n⟩) ∨ ∃ m ∈ theMarks, g = ⟨3, m, 0⟩
noncomputable def pc (g : SgT) : List Int := nl (pieceL g)
theorem dd_ten (k : Nat) : Lib.decDigits (10 ^ (k + 1)) = Lib.decDigits (10 ^ k) ++ [48] := by
  have p : 1 ≤ 10 ^ k := by
    induction k with
    | zero => decide
    | succ k ih => rw [Nat.pow_succ]; omega
  have e : (10 : Nat) ^ (k + 1) = 10 ^ k * 10 := Nat.pow_succ ..
  rw [Lib.decDigits, dif_neg (by omega), e, Nat.mul_div_cancel _ (by decide), Nat.mul_mod_left]
  rfl
theorem pc_num0 : pc (⟨2, (⟨#[]⟩ : ByteArray), 0⟩ : SgT) = [48] := by
  show nl (Lib.itoa (mx 0 0)) = [48]
  rw [show mx 0 0 = 0 from rfl, Lib.itoa, if_neg (by decide), show (0 : Int).toNat = 0 from rfl, Lib.decDigits, dif_pos (by decide)]
  rfl
theorem pc_num7 : pc (⟨2, (⟨#[]⟩ : ByteArray), 7⟩ : SgT) = [55] := by
  show nl (Lib.itoa (mx 7 0)) = [55]
  rw [show mx 7 0 = 7 from rfl, Lib.itoa, if_neg (by decide), show (7 : Int).toNat = 7 from rfl, Lib.decDigits, dif_pos (by decide)]
  rfl
theorem pc_num9 : pc (⟨2, (⟨#[]⟩ : ByteArray), 1000000000⟩ : SgT) = [49, 48, 48, 48, 48, 48, 48, 48, 48, 48] := by
  show nl (Lib.itoa (mx 1000000000 0)) = _
  rw [show mx 1000000000 0 = 1000000000 from rfl, Lib.itoa, if_neg (by decide), show (1000000000 : Int).toNat = 10 ^ (8 + 1) from rfl, dd_ten 8, dd_ten 7, dd_ten 6, dd_ten 5, dd_ten 4, dd_ten 3, dd_ten 2, dd_ten 1, dd_ten 0, Lib.decDigits, dif_pos (by decide)]
  rfl
theorem good_step (s : ByteArray) (hs : s.size ≤ 3000) (g : SgT) (hg : Good g) (M : List Int) (hM : Stop M) (out : List SgT) (i : Nat) (h : (nl s.data.toList).drop i = pc g ++ M) (ho : out.length ≤ i) (R : List SgT × Bool)
    (H : Ev (fun k => impl_SignsOf.l0 k s (out ++ [g]) ((i + (pc g).length : Nat) : Int)) R) : Ev (fun k => impl_SignsOf.l0 k s out (i : Int)) R := by
  rcases hg with ⟨w, hw, rfl⟩ | ⟨n, hn, rfl⟩ | ⟨m, hm, rfl⟩
  · have key : ∀ w ∈ theWords, ∃ x a, nl w.data.toList = x :: a ∧ isLe x = true ∧ (∀ y ∈ a, (isFi y || (true && isLe y)) = true) ∧ a.length ≤ 7 := by
      intro w hw
      simp only [theWords, List.mem_cons, List.not_mem_nil, or_false] at hw
      rcases hw with rfl | rfl | rfl | rfl | rfl <;> exact ⟨_, _, rfl, by decide, by decide, by decide⟩
    obtain ⟨x, a, e, h1, h2, h3⟩ := key w hw
    have ep : pc (⟨1, w, 0⟩ : SgT) = x :: a := e
    rw [ep] at h H
    refine word_step s hs x a h1 h2 h3 M hM out i h ho R ?_
    rw [← e, str_nl]
    rw [← e] at H
    exact H
  · simp only [theNums, List.mem_cons, List.not_mem_nil, or_false] at hn
    rcases hn with rfl | rfl | rfl
    · rw [pc_num0] at h H
      exact num_sstep s hs 48 [] (by decide) (by decide) (by decide) 0 (by decide) (by decide) M hM out i h ho R H
    · rw [pc_num7] at h H
      exact num_sstep s hs 55 [] (by decide) (by decide) (by decide) 7 (by decide) (by decide) M hM out i h ho R H
    · rw [pc_num9] at h H
      exact num_sstep s hs 49 [48, 48, 48, 48, 48, 48, 48, 48, 48] (by decide) (by decide) (by decide) 1000000000 (by decide) (by decide) M hM out i h ho R H
  · have key : ∀ m ∈ theMarks, ∃ x a, nl m.data.toList = x :: a ∧ fM ((x :: a) ++ M) theMarks = m ∧ (x ≠ 32 ∧ x ≠ 10 ∧ isLe x = false ∧ isFi x = false) ∧ a.length ≤ 1 := by
      intro m hm
      simp only [theMarks, List.mem_cons, List.not_mem_nil, or_false] at hm
      rcases hM with rfl | ⟨M', rfl⟩ <;> rcases hm with rfl | rfl | rfl | rfl | rfl | rfl | rfl | rfl | rfl | rfl | rfl | rfl | rfl | rfl <;> exact ⟨_, _, rfl, rfl, by decide, by decide⟩
    obtain ⟨x, a, e, h1, h2, h3⟩ := key m hm
    have ep : pc (⟨3, m, 0⟩ : SgT) = x :: a := e
    rw [ep] at h H
    exact mark_step s hs m x a e M h1 h2 h3 out i h ho R H
noncomputable def tl : List SgT → List Int
  | [] => []
  | g :: r => 32 :: (pc g ++ tl r)
theorem blanks (s : ByteArray) (hs : s.size ≤ 3000) (out : List SgT) : ∀ (E : List Int) (i : Nat), (∀ x ∈ E, x = 32) → (nl s.data.toList).drop i = E → i ≤ s.size → Ev (fun k => impl_SignsOf.l0 k s out (i : Int)) (out, true)
  | [], i, hE, h, hi => ev_s0 fun k => by
    have hz := drop_size h
    rw [List.length_nil] at hz
    rw [impl_SignsOf.l0, if_neg (by omega)]
  | x :: E, i, hE, h, hi => by
    have hz := drop_size h
    rw [List.length_cons] at hz
    exact blank_step s hs x (.inl (hE x (by simp))) E out i h _ (blanks s hs out E (i + 1) (fun y hy => hE y (by simp [hy])) (drop_more (a := [x]) h) (by omega))
theorem stop_tl (r : List SgT) (E : List Int) (hE : ∀ x ∈ E, x = 32) : Stop (tl r ++ E) := by
  cases r with
  | nil =>
    cases E with
    | nil => exact .inl rfl
    | cons x E => exact .inr ⟨E, by rw [hE x (by simp)]; rfl⟩
  | cons g r => exact .inr ⟨pc g ++ tl r ++ E, rfl⟩
theorem lex_tl (s : ByteArray) (hs : s.size ≤ 3000) (E : List Int) (hE : ∀ x ∈ E, x = 32) : ∀ (r : List SgT) (out : List SgT) (i : Nat), (∀ g ∈ r, Good g) → (nl s.data.toList).drop i = tl r ++ E → i ≤ s.size → out.length ≤ i → Ev (fun k => impl_SignsOf.l0 k s out (i : Int)) (out ++ r, true)
  | [], out, i, hg, h, hi, ho => by
    rw [List.append_nil]
    exact blanks s hs out E i hE h hi
  | g :: r, out, i, hg, h, hi, ho => by
    have h1 : (nl s.data.toList).drop i = 32 :: (pc g ++ (tl r ++ E)) := by rw [h, tl]; simp
    have h2 : (nl s.data.toList).drop (i + 1) = pc g ++ (tl r ++ E) := drop_more (a := [32]) h1
    have h3 := drop_more h2
    have z1 := drop_size h1
    have z2 := drop_size h2
    rw [List.length_cons] at z1
    rw [List.length_append] at z2
    have ih := lex_tl s hs E hE r (out ++ [g]) (i + 1 + (pc g).length) (fun y hy => hg y (by simp [hy])) h3 (by omega) (by rw [List.length_append, List.length_singleton]; omega)
    rw [List.append_assoc, List.singleton_append] at ih
    exact blank_step s hs 32 (.inl rfl) _ out i h1 _ (good_step s hs g (hg g (by simp)) _ (stop_tl r E hE) out (i + 1) h2 (by omega) _ ih)
noncomputable def txt : List SgT → List Int
  | [] => []
  | g :: r => pc g ++ tl r
theorem lex_all (s : ByteArray) (hs : s.size ≤ 3000) (E : List Int) (hE : ∀ x ∈ E, x = 32) (ds : List SgT) (hg : ∀ g ∈ ds, Good g) (i : Nat) (h : (nl s.data.toList).drop i = txt ds ++ E) (hi : i ≤ s.size) : Ev (fun k => impl_SignsOf.l0 k s [] (i : Int)) (ds, true) := by
  cases ds with
  | nil => exact blanks s hs [] E i hE h hi
  | cons g r =>
    have h2 : (nl s.data.toList).drop i = pc g ++ (tl r ++ E) := by rw [h, txt]; simp
    have h3 := drop_more h2
    have z2 := drop_size h2
    rw [List.length_append] at z2
    have key : 1 ≤ (pc g).length ∨ (pc g).length = 0 := by omega
    have ih := lex_tl s hs E hE r [g] (i + (pc g).length) (fun y hy => hg y (by simp [hy])) h3 (by omega)
    have hp : 1 ≤ (pc g).length := by
      rcases hg g (by simp) with ⟨w, hw, rfl⟩ | ⟨n, hn, rfl⟩ | ⟨m, hm, rfl⟩
      · have : ∀ w ∈ theWords, 1 ≤ w.size := by decide
        have e : (pc (⟨1, w, 0⟩ : SgT)).length = w.size := nl_len w
        rw [e]; exact this w hw
      · simp only [theNums, List.mem_cons, List.not_mem_nil, or_false] at hn
        rcases hn with rfl | rfl | rfl
        · rw [pc_num0]; decide
        · rw [pc_num7]; decide
        · rw [pc_num9]; decide
      · have e : (pc (⟨3, m, 0⟩ : SgT)).length = m.size := nl_len m
        rw [e]; exact (theMarks_size m hm).1
    exact good_step s hs g (hg g (by simp)) _ (stop_tl r E hE) [] i h2 (by simp) _ (ih (by rw [List.length_singleton]; omega))
theorem nl_join : ∀ r : List SgT, nl (Lib.joinTail [32] (r.map pieceL)) = tl r
  | [] => rfl
  | g :: r => by
    have ih := nl_join r
    have e : Lib.joinTail [32] ((g :: r).map pieceL) = [32] ++ pieceL g ++ Lib.joinTail [32] (r.map pieceL) := by simp [Lib.joinTail]
    rw [e, nl_app, nl_app, ih, tl]
    rfl
theorem nl_text (ds : List SgT) : nl (Lib.join (ds.map pieceL) [32]) = txt ds := by
  cases ds with
  | nil => rfl
  | cons g r => rw [List.map_cons, Lib.join_cons, nl_app, nl_join]; rfl
theorem pc_le (g : SgT) (hg : Good g) : (pc g).length ≤ 10 := by
  rcases hg with ⟨w, hw, rfl⟩ | ⟨n, hn, rfl⟩ | ⟨m, hm, rfl⟩
  · have : ∀ w ∈ theWords, w.size ≤ 10 := by decide
    have e : (pc (⟨1, w, 0⟩ : SgT)).length = w.size := nl_len w
    rw [e]; exact this w hw
  · simp only [theNums, List.mem_cons, List.not_mem_nil, or_false] at hn
    rcases hn with rfl | rfl | rfl
    · rw [pc_num0]; decide
    · rw [pc_num7]; decide
    · rw [pc_num9]; decide
  · have e : (pc (⟨3, m, 0⟩ : SgT)).length = m.size := nl_len m
    have := (theMarks_size m hm).2
    omega
theorem tl_le : ∀ r : List SgT, (∀ g ∈ r, Good g) → (tl r).length ≤ 11 * r.length
  | [], _ => by simp [tl]
  | g :: r, h => by
    have ih := tl_le r (fun y hy => h y (by simp [hy]))
    have := pc_le g (h g (by simp))
    simp only [tl, List.length_cons, List.length_append]
    omega
theorem txt_le (ds : List SgT) (h : ∀ g ∈ ds, Good g) : (txt ds).length ≤ 11 * ds.length := by
  cases ds with
  | nil => simp [txt]
  | cons g r =>
    have := pc_le g (h g (by simp))
    have := tl_le r (fun y hy => h y (by simp [hy]))
    simp only [txt, List.length_cons, List.length_append]
    omega
theorem good_ok (g : SgT) (h : Good g) : sgOk g := by
  rcases h with ⟨w, hw, rfl⟩ | ⟨n, hn, rfl⟩ | ⟨m, hm, rfl⟩
  · have : ∀ w ∈ theWords, w.size ≤ 1048576 := by decide
    exact ⟨this w hw, wf_zero⟩
  · have : ∀ n ∈ theNums, 0 ≤ n ∧ n ≤ 1000000000 := by decide
    exact ⟨by show (0 : Nat) ≤ _; omega, wf_small (this n hn).1 (this n hn).2⟩
  · have := (theMarks_size m hm).2
    exact ⟨by show m.size ≤ _; omega, wf_zero⟩

theorem pick_is (s : List Int) (hs : s.length ≤ 140737488355328) (i g : Int) (l : List ByteArray) (h0 : 0 < l.length) (h : OkAt s i) :
    ∃ v i' g', spec_l01Pick.f s i g l = some (v, i', g') ∧ v ∈ l ∧ OkAt s i' := by
  obtain ⟨v, i1, g1, e, v0, v1, h1⟩ := below_is s hs i g (l.length : Int) (by omega) h
  obtain ⟨n, rfl⟩ := Int.eq_ofNat_of_zero_le v0
  have hn : n < l.length := by omega
  rw [spec_l01Pick.f, e, Option.bind_some, if_pos v0, if_pos v1]
  exact ⟨_, _, _, rfl, by rw [show rdOf ByteArray.empty l ((n : Nat) : Int) = l[n] from rdO_nat l n hn]; exact List.getElem_mem _, h1⟩
theorem pickint_mem (s : List Int) (hs : s.length ≤ 140737488355328) (i g : Int) (l : List Int) (h0 : 0 < l.length) (h : OkAt s i) :
    ∃ v i' g', spec_l01PickInt.f s i g l = some (v, i', g') ∧ v ∈ l ∧ OkAt s i' := by
  obtain ⟨v, i1, g1, e, v0, v1, h1⟩ := below_is s hs i g (l.length : Int) (by omega) h
  obtain ⟨n, rfl⟩ := Int.eq_ofNat_of_zero_le v0
  have hn : n < l.length := by omega
  rw [spec_l01PickInt.f, e, Option.bind_some, if_pos v0, if_pos v1]
  exact ⟨_, _, _, rfl, by rw [show rd l ((n : Nat) : Int) = l[n] from rd_nat l n hn]; exact List.getElem_mem _, h1⟩
theorem good_app {x : List SgT} {g : SgT} (h : ∀ y ∈ x, Good y) (hg : Good g) : ∀ y ∈ x ++ [g], Good y := by
  intro y hy
  rcases List.mem_append.1 hy with hy | hy
  · exact h y hy
  · rw [List.mem_singleton.1 hy]; exact hg
theorem dsigns_l0 (s : List Int) (hs : s.length ≤ 140737488355328) : ∀ (d n : Nat) (x : List SgT) (i g : Int), n + d = 9 → x.length = n → (∀ y ∈ x, Good y) → OkAt s i →
    ∃ R : List SgT × Int × Int, Ev (fun k => spec_l03Signs.l0 k x (n : Int) s i g) R ∧ R.1.length ≤ 9 ∧ (∀ y ∈ R.1, Good y) ∧ OkAt s R.2.1
  | 0, n, x, i, g, hd, hx, hg, ho => by
    obtain ⟨v, i1, g1, e, v0, v1, h1⟩ := below_is s hs i g 9 (by omega) ho
    exact ⟨(x, i1, g1), ev_s0 fun k => by rw [spec_l03Signs.l0, e, Option.bind_some, if_neg (by omega)], by show x.length ≤ 9; omega, hg, h1⟩
  | d + 1, n, x, i, g, hd, hx, hg, ho => by
    obtain ⟨v, i1, g1, e, v0, v1, h1⟩ := below_is s hs i g 9 (by omega) ho
    have w : wrap64 ((n : Int) + 1) = ((n + 1 : Nat) : Int) := by rw [b_w64 (by omega) (by omega)]; omega
    have xl : x.length < 4398046511104 := by omega
    by_cases c : (n : Int) < v
    · obtain ⟨u, i2, g2, e2, u0, u1, h2⟩ := below_is s hs i1 g1 3 (by omega) h1
      by_cases c0 : u = 0
      · obtain ⟨p, i3, g3, e3, hp, h3⟩ := pick_is s hs i2 g2 theWords (by decide) h2
        obtain ⟨R, ER, r1, r2, r3⟩ := dsigns_l0 s hs d (n + 1) (x ++ [(⟨1, p, 0⟩ : SgT)]) i3 g3 (by omega) (by rw [List.length_append, hx]; rfl) (good_app hg (.inl ⟨p, hp, rfl⟩)) h3
        have e3' : spec_l01Pick.f s i2 g2 [(⟨#[102, 110]⟩ : ByteArray), (⟨#[97]⟩ : ByteArray), (⟨#[108, 101, 116]⟩ : ByteArray), (⟨#[97, 98, 99, 49, 50, 51, 52, 53]⟩ : ByteArray), (⟨#[120, 49]⟩ : ByteArray)] = some (p, i3, g3) := e3
        exact ⟨R, ev_s1 ER fun k ek => by rw [spec_l03Signs.l0, e, Option.bind_some, if_pos c, e2, Option.bind_some, if_pos c0, e3', Option.bind_some, if_pos xl, w]; exact ek, r1, r2, r3⟩
      · by_cases c1 : u = 1
        · obtain ⟨p, i3, g3, e3, hp, h3⟩ := pickint_mem s hs i2 g2 theNums (by decide) h2
          obtain ⟨R, ER, r1, r2, r3⟩ := dsigns_l0 s hs d (n + 1) (x ++ [(⟨2, (⟨#[]⟩ : ByteArray), p⟩ : SgT)]) i3 g3 (by omega) (by rw [List.length_append, hx]; rfl) (good_app hg (.inr (.inl ⟨p, hp, rfl⟩))) h3
          have e3' : spec_l01PickInt.f s i2 g2 [0, 7, 1000000000] = some (p, i3, g3) := e3
          exact ⟨R, ev_s1 ER fun k ek => by rw [spec_l03Signs.l0, e, Option.bind_some, if_pos c, e2, Option.bind_some, if_neg c0, if_pos c1, e3', Option.bind_some, if_pos xl, w]; exact ek, r1, r2, r3⟩
        · obtain ⟨p, i3, g3, e3, hp, h3⟩ := pick_is s hs i2 g2 theMarks (by decide) h2
          obtain ⟨R, ER, r1, r2, r3⟩ := dsigns_l0 s hs d (n + 1) (x ++ [(⟨3, p, 0⟩ : SgT)]) i3 g3 (by omega) (by rw [List.length_append, hx]; rfl) (good_app hg (.inr (.inr ⟨p, hp, rfl⟩))) h3
          exact ⟨R, ev_s1 ER fun k ek => by rw [spec_l03Signs.l0, e, Option.bind_some, if_pos c, e2, Option.bind_some, if_neg c0, if_neg c1, theMarks_spec, Option.bind_some, e3, Option.bind_some, if_pos xl, w]; exact ek, r1, r2, r3⟩
    · exact ⟨(x, i1, g1), ev_s0 fun k => by rw [spec_l03Signs.l0, e, Option.bind_some, if_neg c], by show x.length ≤ 9; omega, hg, h1⟩
theorem dsigns_is (s : List Int) (hs : s.length ≤ 140737488355328) (i g : Int) (ho : OkAt s i) : ∃ R : List SgT × Int × Int, Ev (fun k => spec_l03Signs.f k s i g) R ∧ R.1.length ≤ 9 ∧ (∀ y ∈ R.1, Good y) ∧ OkAt s R.2.1 :=
  dsigns_l0 s hs 9 0 [] i g (by omega) rfl (by simp) ho
theorem drawsigns_is (l : List Int) (hs : l.length ≤ 140737488355328) : ∃ ds : List SgT, Ev (fun k => spec_DrawSigns.f k l) ds ∧ ds.length ≤ 9 ∧ ∀ y ∈ ds, Good y := by
  obtain ⟨g, e⟩ := new_is l hs
  obtain ⟨R, ER, r1, r2, r3⟩ := dsigns_is l hs 0 g ⟨by omega, by omega⟩
  exact ⟨R.1, ev_a2 e ER fun k ek er => by rw [spec_DrawSigns.f, ek, Option.bind_some, er, Option.bind_some], r1, r2⟩
theorem drawkey_is (l : List Int) (hs : l.length ≤ 140737488355328) : ∃ u, Ev (fun k => spec_DrawKeyWord.f k l) u := by
  obtain ⟨g, e⟩ := new_is l hs
  obtain ⟨v, i1, g1, e1, _⟩ := pick_is l hs 0 g [(⟨#[102, 110]⟩ : ByteArray), (⟨#[114, 101, 116]⟩ : ByteArray), (⟨#[105, 110, 112, 117, 116]⟩ : ByteArray), (⟨#[120]⟩ : ByteArray), (⟨#[]⟩ : ByteArray), (⟨#[76, 101, 116]⟩ : ByteArray)] (by decide) ⟨by omega, by omega⟩
  exact ⟨v, ev_a1 e fun k ek => by rw [spec_DrawKeyWord.f, ek, Option.bind_some, e1, Option.bind_some]⟩
theorem drawname_is (l : List Int) (hs : l.length ≤ 140737488355328) : ∃ u, Ev (fun k => spec_DrawNameOk.f k l) u := by
  obtain ⟨g, e⟩ := new_is l hs
  obtain ⟨v, i1, g1, e1, _⟩ := pick_is l hs 0 g [(⟨#[97]⟩ : ByteArray), (⟨#[]⟩ : ByteArray), (⟨#[97, 98, 99, 49, 50, 51, 52, 53]⟩ : ByteArray), (⟨#[97, 98, 99, 49, 50, 51, 52, 53, 54]⟩ : ByteArray), (⟨#[49, 97]⟩ : ByteArray), (⟨#[108, 101, 116]⟩ : ByteArray), (⟨#[65]⟩ : ByteArray), (⟨#[120, 95]⟩ : ByteArray)] (by decide) ⟨by omega, by omega⟩
  exact ⟨v, ev_a1 e fun k ek => by rw [spec_DrawNameOk.f, ek, Option.bind_some, e1, Option.bind_some]⟩
theorem drawsignsof_is (l : List Int) (hs : l.length ≤ 140737488355328) : ∃ u, Ev (fun k => spec_DrawSignsOf.f k l) u := by
  obtain ⟨g, e⟩ := new_is l hs
  obtain ⟨v, i1, g1, e1, v0, v1, h1⟩ := below_is l hs 0 g 6 (by omega) ⟨by omega, by omega⟩
  obtain ⟨R, ER, r1, r2, r3⟩ := dsigns_is l hs i1 g1 h1
  obtain ⟨t, ET, ht⟩ := spec_SignText_ev R.1 (by omega) (fun y hy => good_ok y (r2 y hy))
  have tsz : t.size ≤ 100 := by
    have a : t.size = (nl t.data.toList).length := (nl_len t).symm
    rw [a, ht, nl_text]
    have := txt_le R.1 r2
    omega
  by_cases c0 : v = 0
  · obtain ⟨p, i3, g3, e3, hp, h3⟩ := pick_is l hs R.2.1 R.2.2 [(⟨#[65]⟩ : ByteArray), (⟨#[45]⟩ : ByteArray), (⟨#[9]⟩ : ByteArray), (⟨#[49, 48, 48, 48, 48, 48, 48, 48, 48, 49]⟩ : ByteArray), (⟨#[49, 50, 51, 52, 53, 54, 55, 56, 57, 48, 49]⟩ : ByteArray), (⟨#[97, 98, 99, 100, 101, 102, 103, 104, 105]⟩ : ByteArray), (⟨#[62]⟩ : ByteArray)] (by decide) r3
    have ps : ∀ p ∈ [(⟨#[65]⟩ : ByteArray), (⟨#[45]⟩ : ByteArray), (⟨#[9]⟩ : ByteArray), (⟨#[49, 48, 48, 48, 48, 48, 48, 48, 48, 49]⟩ : ByteArray), (⟨#[49, 50, 51, 52, 53, 54, 55, 56, 57, 48, 49]⟩ : ByteArray), (⟨#[97, 98, 99, 100, 101, 102, 103, 104, 105]⟩ : ByteArray), (⟨#[62]⟩ : ByteArray)], p.size ≤ 100 := by decide
    have pz := ps p hp
    have q : t.size + p.size ≤ 9223372036854775807 := by omega
    exact ⟨_, ev_a3 e ER ET fun k ek er et => by rw [spec_DrawSignsOf.f, ek, Option.bind_some, e1, Option.bind_some, er, Option.bind_some, et, Option.bind_some, if_pos c0, e3, Option.bind_some, if_pos q]⟩
  · by_cases c1 : v = 1
    · have q1 : 2 + t.size ≤ 9223372036854775807 := by omega
      have q2 : ((⟨#[32, 32]⟩ : ByteArray) ++ t).size + 1 ≤ 9223372036854775807 := by
        have z : ((⟨#[32, 32]⟩ : ByteArray) ++ t).size = 2 + t.size := by rw [ByteArray.size_append]; rfl
        omega
      exact ⟨_, ev_a3 e ER ET fun k ek er et => by rw [spec_DrawSignsOf.f, ek, Option.bind_some, e1, Option.bind_some, er, Option.bind_some, et, Option.bind_some, if_neg c0, if_pos c1, if_pos q1, if_pos q2]⟩
    · by_cases c2 : v = 2
      · obtain ⟨u, i3, g3, e3, u0, u1, h3⟩ := below_is l hs R.2.1 R.2.2 2 (by omega) r3
        have w : wrap64 (3000 + u) = 3000 + u := b_w64 (by omega) (by omega)
        obtain ⟨z, ez⟩ := long_is (3000 + u) 32 (by omega) (by omega)
        refine ⟨z, ev_a2 (ev_pair e ER) (ev_pair ET ez) fun k ea eb => ?_⟩
        rw [spec_DrawSignsOf.f, ev_pair_l ea, Option.bind_some, e1, Option.bind_some, ev_pair_r ea, Option.bind_some, ev_pair_l eb, Option.bind_some, if_neg c0, if_neg c1, if_pos c2, e3, Option.bind_some, w, ev_pair_r eb, Option.bind_some]
      · exact ⟨t, ev_a3 e ER ET fun k ek er et => by rw [spec_DrawSignsOf.f, ek, Option.bind_some, e1, Option.bind_some, er, Option.bind_some, et, Option.bind_some, if_neg c0, if_neg c1, if_neg c2]⟩

open Given
def keyIn (l : List ByteArray) (s : ByteArray) : Bool := l.any fun w => decide (w.toList = s.toList)
theorem keyIn_step (l : List ByteArray) (i : Nat) (h : i < l.length) (s : ByteArray) : keyIn (l.drop i) s = if (rdOf ByteArray.empty l (i : Int)).toList = s.toList then true else keyIn (l.drop (i + 1)) s := by
  rw [List.drop_eq_getElem_cons h]
  have e : rdOf ByteArray.empty l (i : Int) = l[i] := by simp [rdOf, List.getD, List.getElem?_eq_getElem h]
  rw [e]
  unfold keyIn
  rw [List.any_cons]
  by_cases c : l[i].toList = s.toList
  · rw [if_pos c, decide_eq_true c]; rfl
  · rw [if_neg c, decide_eq_false c]; rfl
theorem spec_KeyWord_l0_ev (s : ByteArray) (l : List ByteArray) (hl : l.length ≤ 1000) : ∀ n i : Nat, l.length - i = n → i ≤ l.length → Ev (fun k => spec_KeyWord.l0 k s l (i : Int)) (keyIn (l.drop i) s)
  | 0, i, hn, hi => ev_s0 fun k => by
    have : ¬ (i : Int) < (l.length : Int) := by omega
    have e : l.drop i = [] := List.drop_eq_nil_of_le (by omega)
    rw [spec_KeyWord.l0, if_neg this, e]; rfl
  | n + 1, i, hn, hi => ev_s1 (spec_KeyWord_l0_ev s l hl n (i + 1) (by omega) (by omega)) fun k h => by
    have q1 : (i : Int) < (l.length : Int) := by omega
    have q2 : (0 : Int) ≤ i := by omega
    have q3 : i < l.length := by omega
    have e : wrap64 ((i : Int) + 1) = ((i + 1 : Nat) : Int) := by rw [b_w64 (by omega) (by omega)]; omega
    rw [spec_KeyWord.l0, if_pos q1, if_pos q2, e, keyIn_step l i q3 s]
    by_cases c : (rdOf ByteArray.empty l (i : Int)).toList = s.toList
    · rw [if_pos c, if_pos c]
    · rw [if_neg c, if_neg c]; exact h
theorem impl_oneOf_l0_ev (s : ByteArray) (l : List ByteArray) (hl : l.length ≤ 1000) : ∀ n i : Nat, l.length - i = n → i ≤ l.length → Ev (fun k => impl_oneOf.l0 k s l (l.length : Int) (i : Int)) (keyIn (l.drop i) s)
  | 0, i, hn, hi => ev_s0 fun k => by
    have : ¬ (i : Int) < (l.length : Int) := by omega
    have e : l.drop i = [] := List.drop_eq_nil_of_le (by omega)
    rw [impl_oneOf.l0, if_neg this, e]; rfl
  | n + 1, i, hn, hi => ev_s1 (impl_oneOf_l0_ev s l hl n (i + 1) (by omega) (by omega)) fun k h => by
    have q1 : (i : Int) < (l.length : Int) := by omega
    have q2 : (0 : Int) ≤ i := by omega
    have q3 : i < l.length := by omega
    have e : wrap64 ((i : Int) + 1) = ((i + 1 : Nat) : Int) := by rw [b_w64 (by omega) (by omega)]; omega
    rw [impl_oneOf.l0, if_pos q1, if_pos q2, if_pos q1, e, keyIn_step l i q3 s]
    by_cases c : (rdOf ByteArray.empty l (i : Int)).toList = s.toList
    · rw [if_pos c, if_pos c]
    · rw [if_neg c, if_neg c]; exact h
def theKeys : List ByteArray := [⟨#[102, 110]⟩, ⟨#[108, 101, 116]⟩, ⟨#[105, 102]⟩, ⟨#[101, 108, 115, 101]⟩, ⟨#[119, 104, 105, 108, 101]⟩, ⟨#[112, 114, 105, 110, 116]⟩, ⟨#[100, 111]⟩, ⟨#[110, 101, 119]⟩, ⟨#[99, 108, 111, 110, 101]⟩, ⟨#[109, 117, 116]⟩, ⟨#[105, 110, 112, 117, 116]⟩, ⟨#[105, 110, 116]⟩, ⟨#[98, 111, 120]⟩, ⟨#[114, 101, 116]⟩]
theorem theKeys_spec : spec_l03Keys.f = some theKeys := rfl
theorem theKeys_split : strings_Split.f (⟨#[102, 110, 32, 108, 101, 116, 32, 105, 102, 32, 101, 108, 115, 101, 32, 119, 104, 105, 108, 101, 32, 112, 114, 105, 110, 116, 32, 100, 111, 32, 110, 101, 119, 32, 99, 108, 111, 110, 101, 32, 109, 117, 116, 32, 105, 110, 112, 117, 116, 32, 105, 110, 116, 32, 98, 111, 120, 32, 114, 101, 116]⟩ : ByteArray) (⟨#[32]⟩ : ByteArray) = some theKeys := by
  kernel_rfl
theorem spec_KeyWord_ev (s : ByteArray) : Ev (fun k => spec_KeyWord.f k s) (keyIn theKeys s) :=
  ev_a1 (spec_KeyWord_l0_ev s theKeys (by decide) 14 0 rfl (by decide)) fun k h => by
    rw [spec_KeyWord.f, theKeys_spec]; exact h
theorem impl_KeyWord_ev (s : ByteArray) : Ev (fun k => impl_KeyWord.f k s) (keyIn theKeys s) :=
  ev_a1 (impl_oneOf_l0_ev s theKeys (by decide) 14 0 rfl (by decide)) fun k h => by
    rw [impl_KeyWord.f, impl_oneOf.f, theKeys_split, Option.bind_some]
    have h' : impl_oneOf.l0 k s theKeys (theKeys.length : Int) 0 = some (keyIn theKeys s) := h
    rw [h']; rfl

theorem spec_in_is (x y z : Int) : spec_l01In.f x y z = some (decide (y ≤ x ∧ x ≤ z)) := by
  unfold spec_l01In.f
  by_cases c : x ≥ y
  · rw [if_pos c]; by_cases d : x ≤ z <;> simp [d, c]
  · rw [if_neg c]; simp; intro h; omega

def allAl (s : ByteArray) : Nat → Nat → Bool
  | 0, _ => true
  | n + 1, i => if isLe (bt s (i : Int)) = true then allAl s n (i + 1) else if isFi (bt s (i : Int)) = true then allAl s n (i + 1) else false
theorem spec_NameOk_l0_ev (s : ByteArray) (hs : s.size ≤ 1000) : ∀ n i : Nat, s.size - i = n → i ≤ s.size → Ev (fun k => spec_NameOk.l0 k s (i : Int)) (allAl s n i)
  | 0, i, hn, hi => ev_s0 fun k => by
    have : ¬ (i : Int) < (s.size : Int) := by omega
    rw [spec_NameOk.l0, if_neg this]; rfl
  | n + 1, i, hn, hi => ev_s1 (spec_NameOk_l0_ev s hs n (i + 1) (by omega) (by omega)) fun k h => by
    have q1 : (i : Int) < (s.size : Int) := by omega
    have q2 : (0 : Int) ≤ i := by omega
    have e : wrap64 ((i : Int) + 1) = ((i + 1 : Nat) : Int) := by rw [b_w64 (by omega) (by omega)]; omega
    rw [spec_NameOk.l0, if_pos q1, if_pos q2, e, spec_letter_is, spec_figure_is, Option.bind_some, Option.bind_some, h, allAl]
    cases isLe (bt s (i : Int)) <;> cases isFi (bt s (i : Int)) <;> rfl
theorem impl_NameOk_l0_ev (s : ByteArray) (hs : s.size ≤ 1000) : ∀ n i : Nat, s.size - i = n → i ≤ s.size → Ev (fun k => impl_NameOk.l0 k s (i : Int)) (allAl s n i && !keyIn theKeys s)
  | 0, i, hn, hi => ev_s1 (impl_KeyWord_ev s) fun k h => by
    have : ¬ (i : Int) < (s.size : Int) := by omega
    have h2 := impl_KeyWord.mono s k _ h
    rw [impl_NameOk.l0, if_neg this, h]; rfl
  | n + 1, i, hn, hi => ev_s1 (impl_NameOk_l0_ev s hs n (i + 1) (by omega) (by omega)) fun k h => by
    have q1 : (i : Int) < (s.size : Int) := by omega
    have q2 : (0 : Int) ≤ i := by omega
    have e : wrap64 ((i : Int) + 1) = ((i + 1 : Nat) : Int) := by rw [b_w64 (by omega) (by omega)]; omega
    rw [impl_NameOk.l0, if_pos q1, if_pos q2, e, impl_letter_is, impl_figure_is, Option.bind_some, Option.bind_some, h, allAl]
    cases isLe (bt s (i : Int)) <;> cases isFi (bt s (i : Int)) <;> rfl
def nameOk (s : ByteArray) : Bool := decide (1 ≤ s.size ∧ s.size ≤ 8) && isLe (bt s 0) && allAl s s.size 0 && !keyIn theKeys s
theorem spec_NameOk_ev (s : ByteArray) : Ev (fun k => spec_NameOk.f k s) (nameOk s) := by
  by_cases q : 1 ≤ s.size ∧ s.size ≤ 8
  · have q1 : 0 < (s.size : Int) := by omega
    have q2 : (1 : Int) ≤ (s.size : Int) ∧ (s.size : Int) ≤ 8 := by omega
    obtain ⟨K, H⟩ := ev_and (spec_KeyWord_ev s) (spec_NameOk_l0_ev s (by omega) s.size 0 (by omega) (by omega))
    refine ⟨K + 1, fun k hk => ?_⟩
    obtain ⟨m, rfl⟩ : ∃ m, k = m + 1 := ⟨k - 1, by omega⟩
    have h1 := (H (m + 1) (by omega)).1
    have h2 := (H m (by omega)).2
    have h2' : spec_NameOk.l0 m s 0 = some (allAl s s.size 0) := h2
    show spec_NameOk.f (m + 1) s = _
    rw [spec_NameOk.f, spec_in_is, Option.bind_some, decide_eq_true q2, if_pos rfl, if_pos q1, spec_letter_is, Option.bind_some, h1, Option.bind_some, nameOk, decide_eq_true q, spec_NameOk.j0, spec_NameOk.j0, h2']
    cases isLe (bt s 0) <;> cases keyIn theKeys s <;> cases allAl s s.size 0 <;> rfl
  · have q2 : ¬ ((1 : Int) ≤ (s.size : Int) ∧ (s.size : Int) ≤ 8) := by omega
    refine ⟨1, fun k hk => ?_⟩
    obtain ⟨m, rfl⟩ : ∃ m, k = m + 1 := ⟨k - 1, by omega⟩
    show spec_NameOk.f (m + 1) s = _
    rw [spec_NameOk.f, spec_in_is, Option.bind_some, decide_eq_false q2, nameOk, decide_eq_false q, spec_NameOk.j0]
    rfl
theorem impl_NameOk_ev (s : ByteArray) : Ev (fun k => impl_NameOk.f k s) (nameOk s) := by
  by_cases q : 1 ≤ s.size ∧ s.size ≤ 8
  · have q1 : 0 < (s.size : Int) := by omega
    have q2 : (1 : Int) ≤ (s.size : Int) ∧ (s.size : Int) ≤ 8 := by omega
    obtain ⟨K, H⟩ := impl_NameOk_l0_ev s (by omega) s.size 0 (by omega) (by omega)
    refine ⟨K + 1, fun k hk => ?_⟩
    obtain ⟨m, rfl⟩ : ∃ m, k = m + 1 := ⟨k - 1, by omega⟩
    have h2' : impl_NameOk.l0 m s 0 = some (allAl s s.size 0 && !keyIn theKeys s) := H m (by omega)
    show impl_NameOk.f (m + 1) s = _
    rw [impl_NameOk.f, impl_in_is, Option.bind_some, decide_eq_true q2, if_pos rfl, if_pos q1, impl_letter_is, Option.bind_some, nameOk, decide_eq_true q, impl_NameOk.j0, h2']
    cases isLe (bt s 0) <;> cases keyIn theKeys s <;> cases allAl s s.size 0 <;> rfl
  · have q2 : ¬ ((1 : Int) ≤ (s.size : Int) ∧ (s.size : Int) ≤ 8) := by omega
    refine ⟨1, fun k hk => ?_⟩
    obtain ⟨m, rfl⟩ : ∃ m, k = m + 1 := ⟨k - 1, by omega⟩
    show impl_NameOk.f (m + 1) s = _
    rw [impl_NameOk.f, impl_in_is, Option.bind_some, decide_eq_false q2, nameOk, decide_eq_false q, impl_NameOk.j0]
    rfl

theorem same_l0 (a : List SgT) (hl : a.length ≤ 100000) : ∀ (d i : Nat), i + d = a.length → Ev (fun k => laws_sameSigns.l0 k a a (i : Int)) true
  | 0, i, h => ev_s0 fun k => by rw [laws_sameSigns.l0, if_neg (by omega)]
  | d + 1, i, h => ev_s1 (same_l0 a hl d (i + 1) (by omega)) fun k e => by
    have q1 : (i : Int) < (a.length : Int) := by omega
    have q2 : (0 : Int) ≤ (i : Int) := by omega
    have w : wrap64 ((i : Int) + 1) = ((i + 1 : Nat) : Int) := by rw [b_w64 (by omega) (by omega)]; omega
    rw [laws_sameSigns.l0, if_pos q1, if_pos q2, if_pos q1, if_neg (by simp), w]
    exact e
theorem same_ev (a : List SgT) (hl : a.length ≤ 100000) : Ev (fun k => laws_sameSigns.f k a a) true :=
  ev_a1 (same_l0 a hl a.length 0 (by omega)) fun k e => by rw [laws_sameSigns.f, if_pos rfl]; exact e
theorem FnSigns : laws_FnSigns.Pure := by
  intro l _ hs0 _
  have hs : l.length ≤ 140737488355328 := by omega
  by_cases big : (l.length : Int) > 1048576
  · exact ⟨0, by rw [laws_FnSigns.f, laws_big.f, Option.bind_some, if_pos (by simpa using big)]⟩
  have bg : decide ((l.length : Int) > 1048576) = false := by simpa using big
  obtain ⟨ds, E1, d1, d2⟩ := drawsigns_is l hs
  have E2 := impl_SignText_ev ds (by omega) (fun y hy => good_ok y (d2 y hy))
  obtain ⟨t, ht⟩ : ∃ t : ByteArray, t = ⟨(Lib.join (ds.map pieceL) [32]).toArray⟩ := ⟨_, rfl⟩
  rw [← ht] at E2
  have tn : nl t.data.toList = txt ds := by rw [ht]; exact nl_text ds
  have tz : t.size ≤ 100 := by
    have a := nl_len t
    rw [tn] at a
    have := txt_le ds d2
    omega
  have E3 : Ev (fun k => impl_SignsOf.f k t) (ds, true) := ev_a1 (lex_all t (by omega) [] (by simp) ds d2 0 (by rw [List.drop_zero, tn, List.append_nil]) (by omega)) fun k e => by
    rw [impl_SignsOf.f, if_neg (by omega)]; exact e
  obtain ⟨p, hp⟩ : ∃ p : ByteArray, p = ((⟨#[32, 10]⟩ : ByteArray) ++ t) ++ (⟨#[32, 32]⟩ : ByteArray) := ⟨_, rfl⟩
  have pz0 : ((⟨#[32, 10]⟩ : ByteArray) ++ t).size = 2 + t.size := by rw [ByteArray.size_append]; rfl
  have pz : p.size = 2 + t.size + 2 := by rw [hp, ByteArray.size_append, pz0]; rfl
  have pn : nl p.data.toList = 32 :: 10 :: (txt ds ++ [32, 32]) := by
    rw [hp, bdata_app, bdata_app, nl_app, nl_app, tn]
    show ([32, 10] ++ txt ds) ++ [32, 32] = _
    simp
  have E4 : Ev (fun k => impl_SignsOf.f k p) (ds, true) := by
    have h2 := lex_all p (by omega) [32, 32] (by simp) ds d2 2 (by rw [pn]; rfl) (by omega)
    have h1 := blank_step p (by omega) 10 (.inr rfl) (txt ds ++ [32, 32]) [] 1 (by rw [pn]; rfl) _ h2
    have h0 := blank_step p (by omega) 32 (.inl rfl) (10 :: (txt ds ++ [32, 32])) [] 0 (by rw [pn]; rfl) _ h1
    exact ev_a1 h0 fun k e => by rw [impl_SignsOf.f, if_neg (by omega)]; exact e
  obtain ⟨u, E5⟩ := drawsignsof_is l hs
  obtain ⟨⟨r, b⟩, ⟨hr, hok⟩, E6, E7⟩ := signs_ev u
  have hr : r.length ≤ 3000 := hr
  have hok : ∀ x ∈ r, sgOk x := hok
  obtain ⟨kw, E8⟩ := drawkey_is l hs
  obtain ⟨nm, E9⟩ := drawname_is l hs
  have E10 := same_ev ds (by omega)
  have E11 := same_ev r (by omega)
  have E12 := impl_KeyWord_ev kw
  have E13 := spec_KeyWord_ev kw
  have E14 := impl_NameOk_ev nm
  have E15 := spec_NameOk_ev nm
  have E16 := impl_SignText_ev r (by omega) hok
  obtain ⟨T, E17, hT⟩ := spec_SignText_ev r (by omega) hok
  obtain ⟨K1, e1⟩ := E1
  obtain ⟨K2, e2⟩ := E2
  obtain ⟨K3, e3⟩ := E3
  obtain ⟨K4, e4⟩ := E4
  obtain ⟨K5, e5⟩ := E5
  obtain ⟨K6, e6⟩ := E6
  obtain ⟨K7, e7⟩ := E7
  obtain ⟨K8, e8⟩ := E8
  obtain ⟨K9, e9⟩ := E9
  obtain ⟨K10, e10⟩ := E10
  obtain ⟨K11, e11⟩ := E11
  obtain ⟨K12, e12⟩ := E12
  obtain ⟨K13, e13⟩ := E13
  obtain ⟨K14, e14⟩ := E14
  obtain ⟨K15, e15⟩ := E15
  obtain ⟨K16, e16⟩ := E16
  obtain ⟨K17, e17⟩ := E17
  obtain ⟨K, hK⟩ : ∃ K, K = K1 + K2 + K3 + K4 + K5 + K6 + K7 + K8 + K9 + K10 + K11 + K12 + K13 + K14 + K15 + K16 + K17 := ⟨_, rfl⟩
  have f1 : spec_DrawSigns.f K l = some ds := e1 K (by omega)
  have f2 : impl_SignText.f K ds = some t := e2 K (by omega)
  have f3 : impl_SignsOf.f K t = some (ds, true) := e3 K (by omega)
  have f4 : impl_SignsOf.f K p = some (ds, true) := e4 K (by omega)
  have f5 : spec_DrawSignsOf.f K l = some u := e5 K (by omega)
  have f6 : spec_SignsOf.f K u = some (r, b) := e6 K (by omega)
  have f7 : impl_SignsOf.f K u = some (r, b) := e7 K (by omega)
  have f8 : spec_DrawKeyWord.f K l = some kw := e8 K (by omega)
  have f9 : spec_DrawNameOk.f K l = some nm := e9 K (by omega)
  have f10 : laws_sameSigns.f K ds ds = some true := e10 K (by omega)
  have f11 : laws_sameSigns.f K r r = some true := e11 K (by omega)
  have f12 : impl_KeyWord.f K kw = some (keyIn theKeys kw) := e12 K (by omega)
  have f13 : spec_KeyWord.f K kw = some (keyIn theKeys kw) := e13 K (by omega)
  have f14 : impl_NameOk.f K nm = some (nameOk nm) := e14 K (by omega)
  have f15 : spec_NameOk.f K nm = some (nameOk nm) := e15 K (by omega)
  have f16 : impl_SignText.f K r = some ⟨(Lib.join (r.map pieceL) [32]).toArray⟩ := e16 K (by omega)
  have f17 : spec_SignText.f K r = some T := e17 K (by omega)
  have q1 : 2 + t.size ≤ 9223372036854775807 := by omega
  have q2 : ((⟨#[32, 10]⟩ : ByteArray) ++ t).size + 2 ≤ 9223372036854775807 := by omega
  have qT : (⟨(Lib.join (r.map pieceL) [32]).toArray⟩ : ByteArray).toList = T.toList := by rw [Lib.toList_data, Lib.toList_data, hT]
  refine ⟨K, ?_⟩
  rw [laws_FnSigns.f, laws_big.f, Option.bind_some, if_neg (by rw [bg]; decide), f1, Option.bind_some, f2, Option.bind_some, f3, Option.bind_some, if_pos q1, if_pos q2, ← hp, f4, Option.bind_some, f5, Option.bind_some, f7, Option.bind_some, f6, Option.bind_some, f8, Option.bind_some, f9, Option.bind_some]
  simp only [f10, f11, f12, f13, f14, f15, f16, f17, Option.bind_some, if_true, beq_self_eq_true, qT]
end Go.Proofs.YtcoapbnbakmkoaaDoor.Pure
