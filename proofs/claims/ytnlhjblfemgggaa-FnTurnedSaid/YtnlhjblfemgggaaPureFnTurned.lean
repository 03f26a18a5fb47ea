/- A sealed text whose one byte is changed is not unsealed; it is unsealed as it was sealed; the sum goes on. No condition beside what the statement itself asks. -/
import Derived.Test.YtnlhjblfemgggaaPFnTurnedx2
import Derived.Laws.BitsLemmas
import Derived.Lib.Bytes
import Derived.Lib.LazyBuf
set_option linter.unusedVariables false
set_option linter.unusedSimpArgs false
namespace Go.Proofs.Ytnlhjblfemgggaa.Pure
open Go.RowKit Go.Proofs.Ytnlhjblfemgggaa.PFnTurned Go.Proofs.YtnlhjblfemgggaaW.PrintWords Go.Proofs.YtnlhjblfemgggaaW.PrintLast

theorem b_w64 {x : Int} (h0 : -9223372036854775808 ≤ x) (h1 : x ≤ 9223372036854775807) : wrap64 x = x := by unfold wrap64; omega
theorem b_tmod {x y : Int} (h : 0 ≤ x) : Int.tmod x y = x % y := Int.tmod_eq_emod_of_nonneg h
theorem ev_s0 {α : Type} {F : Nat → Option α} {r : α} (H : ∀ k, F (k + 1) = some r) : Ev F r := by
  refine ⟨1, fun k hk => ?_⟩
  obtain ⟨m, rfl⟩ : ∃ m, k = m + 1 := ⟨k - 1, by omega⟩
  exact H m
theorem ev_s1 {α β : Type} {F : Nat → Option α} {r : α} {g : Nat → Option β} {a : β} (ha : Ev g a) (H : ∀ k, g k = some a → F (k + 1) = some r) : Ev F r := by
  obtain ⟨K, ha⟩ := ha
  refine ⟨K + 1, fun k hk => ?_⟩
  obtain ⟨m, rfl⟩ : ∃ m, k = m + 1 := ⟨k - 1, by omega⟩
  exact H m (ha m (by omega))
theorem ev_and {α β : Type} {g : Nat → Option α} {f : Nat → Option β} {a : α} {b : β} (ha : Ev g a) (hb : Ev f b) : ∃ K, ∀ k, K ≤ k → g k = some a ∧ f k = some b := by
  obtain ⟨K, ha⟩ := ha
  obtain ⟨K', hb⟩ := hb
  exact ⟨max K K', fun k hk => ⟨ha k (by omega), hb k (by omega)⟩⟩
theorem ev_a2 {α β γ : Type} {F : Nat → Option α} {r : α} {g : Nat → Option β} {a : β} {f : Nat → Option γ} {b : γ} (ha : Ev g a) (hb : Ev f b) (H : ∀ k, g k = some a → f k = some b → F k = some r) : Ev F r := by
  obtain ⟨K, h⟩ := ev_and ha hb
  exact ⟨K, fun k hk => H k (h k hk).1 (h k hk).2⟩
theorem bt_nat (s : ByteArray) (i : Nat) (h : i < s.size) : bt s (i : Int) = ((s.data.toList[i]'(by simpa using h)).toNat : Int) := by
  have e := bt_at s (i : Int) (by simpa using h)
  rw [← e]
  rfl
theorem bdata_app (a b : ByteArray) : (a ++ b).data.toList = a.data.toList ++ b.data.toList := by rw [ByteArray.data_append, Array.toList_append]
def nl (l : List UInt8) : List Int := l.map fun b => (b.toNat : Int)
theorem nl_app (a b : List UInt8) : nl (a ++ b) = nl a ++ nl b := by simp [nl]
theorem nl_len (s : ByteArray) : (nl s.data.toList).length = s.size := by simp only [nl, List.length_map]; rfl
theorem nl_range (l : List UInt8) : ∀ x ∈ nl l, 0 ≤ x ∧ x ≤ 255 := by
  intro x hx
  simp only [nl, List.mem_map] at hx
  obtain ⟨b, _, rfl⟩ := hx
  have := b.toNat_lt
  omega
theorem nl_bytes : ∀ (xs : List Int), (∀ x ∈ xs, 0 ≤ x ∧ x ≤ 255) → nl (Lib.bytesOf xs) = xs
  | [], _ => rfl
  | x :: xs, h => by
    have ih := nl_bytes xs (fun y hy => h y (by simp [hy]))
    have hx := h x (by simp)
    simp only [nl, Lib.bytesOf, List.map_cons] at ih ⊢
    rw [ih, UInt8.toNat_ofNat']
    congr 1
    omega
theorem nl_str (xs : List Int) (h : ∀ x ∈ xs, 0 ≤ x ∧ x ≤ 255) : nl (strOfNums xs).data.toList = xs := by
  rw [← Lib.toList_data, Lib.strOfNums_toList, nl_bytes xs h]
theorem str_nl (s : ByteArray) : strOfNums (nl s.data.toList) = s := by
  unfold nl
  rw [Lib.Lz.strOfNums_map]
theorem bt_nl (s : ByteArray) (i : Nat) : bt s (i : Int) = (nl s.data.toList).getD i 0 := by
  by_cases h : i < s.size
  · have hl : i < (nl s.data.toList).length := by rw [nl_len]; exact h
    rw [bt_nat s i h, List.getD_eq_getElem?_getD, List.getElem?_eq_getElem hl]
    simp [nl]
  · have hl : (nl s.data.toList).length ≤ i := by rw [nl_len]; omega
    rw [List.getD_eq_getElem?_getD, List.getElem?_eq_none hl]
    unfold bt
    rw [dif_neg (by simpa using h)]
    rfl

def crcBit (x : Int) : Int := if x % 2 = 1 then Go.bits .xor .u32 (x / 2) 3558460437 else x / 2
def crcBits : Nat → Int → Int
  | 0, x => x
  | d + 1, x => crcBits d (crcBit x)
def crcByte (x b : Int) : Int := crcBits 8 (Go.bits .xor .u32 x b)
def sumFrom (s : ByteArray) : Nat → Nat → Int → Int
  | 0, _, x => x
  | d + 1, i, x => sumFrom s d (i + 1) (crcByte x (bt s i))
theorem xor_range (x y : Int) : 0 ≤ Go.bits .xor .u32 x y ∧ Go.bits .xor .u32 x y < 4294967296 := by
  unfold Go.bits
  simp only [IntKind.wrap_u32]
  omega
theorem crcBit_range {x : Int} (h0 : 0 ≤ x) (h1 : x < 4294967296) : 0 ≤ crcBit x ∧ crcBit x < 4294967296 := by
  unfold crcBit
  split
  · exact xor_range _ _
  · omega
theorem crcBits_range : ∀ (d : Nat) (x : Int), 0 ≤ x → x < 4294967296 → 0 ≤ crcBits d x ∧ crcBits d x < 4294967296
  | 0, x, h0, h1 => ⟨h0, h1⟩
  | d + 1, x, h0, h1 => crcBits_range d _ (crcBit_range h0 h1).1 (crcBit_range h0 h1).2
theorem crcByte_range (x b : Int) : 0 ≤ crcByte x b ∧ crcByte x b < 4294967296 := crcBits_range 8 _ (xor_range _ _).1 (xor_range _ _).2
theorem u32_and1 {x : Int} (h0 : 0 ≤ x) (h1 : x < 4294967296) : Go.bits .and .u32 x 1 = x % 2 := by
  have := Go.bits_mask .u32 32 (by decide) (fun n a b => by rw [IntKind.wrap_u32]; omega) 1 (by decide) x h0 (by omega)
  simpa using this
theorem impl_SumMore_l1 (s : ByteArray) (i : Int) (r : Int) : ∀ (d j : Nat) (x : Int), j + d = 8 → 0 ≤ x → x < 4294967296 →
    Ev (fun k => impl_SumMore.l0 k (crcBits d x) s (wrap64 (i + 1))) r → Ev (fun k => impl_SumMore.l1 k x s i (j : Int)) r
  | 0, j, x, hj, h0, h1, h => Ev.step (fun k => by simp only [impl_SumMore.l1]; rw [if_neg (by omega)]; rfl) h
  | d + 1, j, x, hj, h0, h1, h => by
    have ih := impl_SumMore_l1 s i r d (j + 1) (crcBit x) (by omega) (crcBit_range h0 h1).1 (crcBit_range h0 h1).2 h
    refine Ev.step (fun k => ?_) ih
    simp only [impl_SumMore.l1]
    rw [if_pos (by omega), u32_and1 h0 h1, show wrap64 ((j : Int) + 1) = ((j + 1 : Nat) : Int) by unfold wrap64; omega]
    unfold crcBit
    split <;> rfl
theorem impl_SumMore_l0 (s : ByteArray) (hs : s.size ≤ 140737488351232) : ∀ (d i : Nat) (x : Int), i + d = s.size → 0 ≤ x → x < 4294967296 →
    Ev (fun k => impl_SumMore.l0 k x s (i : Int)) (sumFrom s d i x)
  | 0, i, x, hi, h0, h1 => Ev.step (fun k => by simp only [impl_SumMore.l0]; rw [if_neg (by omega)]) (Ev.now x)
  | d + 1, i, x, hi, h0, h1 => by
    have hr := crcByte_range x (bt s i)
    have ih := impl_SumMore_l0 s hs d (i + 1) (crcByte x (bt s i)) (by omega) hr.1 hr.2
    have hb := bt_range s i
    have e : bt s i % 4294967296 = bt s i := by omega
    have h := impl_SumMore_l1 s i (sumFrom s d (i + 1) (crcByte x (bt s i))) 8 0 (Go.bits .xor .u32 x (bt s i)) (by omega) (xor_range _ _).1 (xor_range _ _).2
      (by rw [show wrap64 ((i : Int) + 1) = ((i + 1 : Nat) : Int) by unfold wrap64; omega]; exact ih)
    refine Ev.step (fun k => ?_) h
    simp only [impl_SumMore.l0]
    rw [if_pos (by omega), if_pos (by omega), e]; rfl
theorem impl_SumMore_ev (s : ByteArray) (hs : s.size ≤ 140737488351232) (x : Int) (h0 : 0 ≤ x) (h1 : x < 4294967296) :
    Ev (fun k => impl_SumMore.f k x s) (sumFrom s s.size 0 x) := impl_SumMore_l0 s hs s.size 0 x (by omega) h0 h1

theorem impl_SumOf_ev (s : ByteArray) (hs : s.size ≤ 140737488351232) : Ev (fun k => impl_SumOf.f k s) (sumFrom s s.size 0 4294967295) :=
  Ev.congr (fun k => by simp only [impl_SumOf.f]) (Ev.bind (impl_SumMore_ev s hs 4294967295 (by omega) (by omega)) (Ev.now _))

def fourB (x : Int) : ByteArray := strOfNums [(x / 16777216) % 256, (x / 65536) % 256, (x / 256) % 256, x % 256]
theorem fourB_size (x : Int) : (fourB x).size = 4 := by unfold fourB; rw [strOfNums_size]; rfl
def sealedR (s : ByteArray) : ByteArray × Bool := if (s.size : Int) > 20000 then ((⟨#[]⟩ : ByteArray), false) else (s ++ fourB (sumFrom s s.size 0 4294967295), true)
theorem impl_Sealed_ev (s : ByteArray) : Ev (fun k => impl_Sealed.f k s) (sealedR s) := by
  unfold sealedR
  by_cases h : (s.size : Int) > 20000
  · rw [if_pos h]
    exact Ev.congr (fun k => by simp only [impl_Sealed.f]; rw [if_pos h]) (Ev.now _)
  · rw [if_neg h]
    refine Ev.congr (fun k => by simp only [impl_Sealed.f]; rw [if_neg h]) (Ev.bind (impl_SumOf_ev s (by omega)) ?_)
    have hz := fourB_size (sumFrom s s.size 0 4294967295)
    refine Ev.congr (fun k => ?_) (Ev.now _)
    show (some (fourB (sumFrom s s.size 0 4294967295))).bind _ = _
    rw [Option.bind_some, if_pos (by omega)]

def unsealedR (s : ByteArray) : ByteArray × Bool :=
  if s.size < 4 ∨ s.size > 20004 then ((⟨#[]⟩ : ByteArray), false)
  else if (s.extract (s.size - 4) s.size).toList = (strOfNums [(sumFrom (s.extract 0 (s.size - 4)) (s.extract 0 (s.size - 4)).size 0 4294967295 / 16777216) % 256, (sumFrom (s.extract 0 (s.size - 4)) (s.extract 0 (s.size - 4)).size 0 4294967295 / 65536) % 256, (sumFrom (s.extract 0 (s.size - 4)) (s.extract 0 (s.size - 4)).size 0 4294967295 / 256) % 256, sumFrom (s.extract 0 (s.size - 4)) (s.extract 0 (s.size - 4)).size 0 4294967295 % 256]).toList then (s.extract 0 (s.size - 4), true) else ((⟨#[]⟩ : ByteArray), false)
theorem extract_size_le (s : ByteArray) (i j : Nat) : (s.extract i j).size ≤ s.size := by
  rw [ByteArray.size_extract]; omega
theorem impl_Unsealed_ev (s : ByteArray) (hs : s.size ≤ 140737488351232) : Ev (fun k => impl_Unsealed.f k s) (unsealedR s) := by
  unfold unsealedR
  by_cases h : s.size < 4
  · rw [if_pos (.inl h)]
    exact Ev.congr (fun k => by simp only [impl_Unsealed.f]; rw [if_pos (by unfold wrap64; omega)]) (Ev.now _)
  · by_cases h2 : s.size > 20004
    · rw [if_pos (.inr h2)]
      exact Ev.congr (fun k => by simp only [impl_Unsealed.f]; rw [if_neg (by unfold wrap64; omega), if_pos (by unfold wrap64; omega)]) (Ev.now _)
    · rw [if_neg (by omega)]
      have e : (wrap64 ((s.size : Int) - 4)) = ((s.size - 4 : Nat) : Int) := by unfold wrap64; omega
      have hv := impl_SumOf_ev (s.extract 0 (s.size - 4)) (by have := extract_size_le s 0 (s.size - 4); omega)
      refine Ev.congr (fun k => by simp only [impl_Unsealed.f]; rw [e, if_neg (by omega), if_neg (by omega), if_pos (by omega), if_pos (by omega), Int.toNat_natCast]) (Ev.bind hv ?_)
      refine Ev.congr (fun k => ?_) (Ev.now _)
      simp only [impl_fourBytes.f, Option.bind_some]
      split <;> rfl

theorem i64_and255 (n : Int) : Go.bits .and .i64 n 255 = n % 256 := by
  have h255 : (BitVec.ofInt 64 255).toNat = 2 ^ 8 - 1 := by decide
  have key : (BitVec.ofInt 64 n &&& BitVec.ofInt 64 255).toNat = (n % ((2 ^ 64 : Nat) : Int)).toNat % 2 ^ 8 := by
    rw [BitVec.toNat_and, BitVec.toNat_ofInt, h255, Nat.and_two_pow_sub_one_eq_mod]
  show IntKind.i64.wrap ((BitVec.ofInt 64 n &&& BitVec.ofInt 64 255).toNat : Nat) = n % 256
  rw [key, IntKind.wrap_i64]
  omega
/-- a tape is read at a place within it -/
def OkAt (s : List Int) (i : Int) : Prop := 0 ≤ i ∧ i ≤ (s.length : Int)
theorem byte_is (s : List Int) (hs : s.length ≤ 140737488355328) (i g : Int) (h : OkAt s i) :
    ∃ v i' g', spec_l01Byte.f s i g = some (v, i', g') ∧ 0 ≤ v ∧ v ≤ 255 ∧ OkAt s i' := by
  unfold OkAt at *
  rw [spec_l01Byte.f]
  by_cases c : i < (s.length : Int)
  · have q : 0 ≤ i := h.1
    rw [if_pos c, if_pos q]
    refine ⟨_, _, _, rfl, ?_, ?_, ?_⟩
    · rw [i64_and255]; exact Int.emod_nonneg _ (by decide)
    · rw [i64_and255]; have := Int.emod_lt_of_pos (wrap64 (Go.bits .and .i64 (Go.bits .xor .i64 ((wrap64 ((wrap64 (g * 6364136223846793005)) + 1442695040888963407)) / 8589934592) ((wrap64 ((wrap64 (g * 6364136223846793005)) + 1442695040888963407)) / 35184372088832)) 255 + (wrap64 (rd s i)))) (show (0 : Int) < 256 by decide); clear c q h; generalize (_ % 256 : Int) = z at this ⊢; omega
    · have e : wrap64 (i + 1) = i + 1 := b_w64 (by omega) (by omega)
      rw [e]; omega
  · rw [if_neg c]
    refine ⟨_, _, _, rfl, ?_, ?_, h⟩
    · rw [i64_and255]; exact Int.emod_nonneg _ (by decide)
    · rw [i64_and255]; exact Int.le_of_lt_add_one (Int.emod_lt_of_pos _ (by decide))
theorem below_is (s : List Int) (hs : s.length ≤ 140737488355328) (i g n : Int) (hn : 0 < n) (h : OkAt s i) :
    ∃ v i' g', spec_l01Below.f s i g n = some (v, i', g') ∧ 0 ≤ v ∧ v < n ∧ OkAt s i' := by
  rw [spec_l01Below.f, if_neg (by omega)]
  by_cases c : n ≤ 256
  · obtain ⟨v, i1, g1, e, v0, v1, h1⟩ := byte_is s hs i g h
    rw [if_pos c, e, Option.bind_some, if_neg (by omega)]
    refine ⟨_, _, _, rfl, ?_, ?_, h1⟩
    · rw [b_tmod v0]; exact Int.emod_nonneg _ (by omega)
    · rw [b_tmod v0]; exact Int.emod_lt_of_pos _ hn
  · obtain ⟨v, i1, g1, e, v0, v1, h1⟩ := byte_is s hs i g h
    obtain ⟨u, i2, g2, e2, u0, u1, h2⟩ := byte_is s hs i1 g1 h1
    obtain ⟨x, i3, g3, e3, x0, x1, h3⟩ := byte_is s hs i2 g2 h2
    obtain ⟨y, i4, g4, e4, y0, y1, h4⟩ := byte_is s hs i3 g3 h3
    rw [if_neg c, e, Option.bind_some, e2, Option.bind_some, e3, Option.bind_some, e4, Option.bind_some, if_neg (by omega)]
    have w0 : 0 ≤ wrap64 ((wrap64 ((wrap64 ((wrap64 (v * 16777216)) + (wrap64 (u * 65536)))) + (wrap64 (x * 256)))) + y) := by
      clear e e2 e3 e4 h h1 h2 h3 h4 hn c
      unfold wrap64; omega
    refine ⟨_, _, _, rfl, ?_, ?_, h4⟩
    · simp only; rw [b_tmod w0]; exact Int.emod_nonneg _ (by omega)
    · simp only; rw [b_tmod w0]; exact Int.emod_lt_of_pos _ hn
theorem new_l0 (l : List Int) (hs : l.length ≤ 140737488355328) : ∀ (d i : Nat) (x : Int), 4000 ≤ i + d → ∃ g, Ev (fun k => spec_l01New.l0 k l x (i : Int)) (l, 0, g)
  | 0, i, x, h => by
    refine ⟨x, ev_s0 fun k => ?_⟩
    rw [spec_l01New.l0]
    by_cases c : (i : Int) < (l.length : Int)
    · rw [if_pos c, if_neg (by omega)]
    · rw [if_neg c]
  | d + 1, i, x, h => by
    by_cases c : (i : Int) < (l.length : Int)
    · by_cases c2 : (i : Int) < 4000
      · obtain ⟨g, e⟩ := new_l0 l hs d (i + 1) (Go.bits .and .i64 (wrap64 ((wrap64 ((wrap64 (x * 131)) + (wrap64 (rd l (i : Int))))) + 7)) 1073741823) (by omega)
        refine ⟨g, ev_s1 e fun k ek => ?_⟩
        have q : (0 : Int) ≤ (i : Int) := by omega
        have w : wrap64 ((i : Int) + 1) = ((i + 1 : Nat) : Int) := by unfold wrap64; omega
        rw [spec_l01New.l0, if_pos c, if_pos c2, if_pos q, w]
        exact ek
      · refine ⟨x, ev_s0 fun k => ?_⟩
        rw [spec_l01New.l0, if_pos c, if_neg c2]
    · refine ⟨x, ev_s0 fun k => ?_⟩
      rw [spec_l01New.l0, if_neg c]
theorem new_is (l : List Int) (hs : l.length ≤ 140737488355328) : ∃ g, Ev (fun k => spec_l01New.f k l) (l, 0, g) := new_l0 l hs 4000 0 _ (by omega)

theorem trd_nat (xs : List Int) (i : Nat) (h : i < xs.length) : rd xs (i : Int) = xs[i] := by
  unfold rd
  rw [Int.toNat_natCast, List.getD_eq_getElem?_getD, List.getElem?_eq_getElem h]
  rfl
theorem xor32 (a b : Nat) (ha : a < 4294967296) (hb : b < 4294967296) : Go.bits .xor .u32 (a : Int) (b : Int) = ((a ^^^ b : Nat) : Int) := by
  have hx : a ^^^ b < 2 ^ 32 := Nat.xor_lt_two_pow (by omega) (by omega)
  have h1 : (BitVec.ofInt 32 (a : Int)).toNat = a := by
    rw [BitVec.ofInt_natCast, BitVec.toNat_ofNat]; exact Nat.mod_eq_of_lt (by omega)
  have h2 : (BitVec.ofInt 32 (b : Int)).toNat = b := by
    rw [BitVec.ofInt_natCast, BitVec.toNat_ofNat]; exact Nat.mod_eq_of_lt (by omega)
  show IntKind.u32.wrap ((BitVec.ofInt 32 (a : Int) ^^^ BitVec.ofInt 32 (b : Int)).toNat : Int) = _
  rw [BitVec.toNat_xor, h1, h2, IntKind.wrap_u32]
  omega
theorem xor8 (a b : Nat) (ha : a < 256) (hb : b < 256) : Go.bits .xor .u8 (a : Int) (b : Int) = ((a ^^^ b : Nat) : Int) := by
  have hx : a ^^^ b < 2 ^ 8 := Nat.xor_lt_two_pow (by omega) (by omega)
  have h1 : (BitVec.ofInt 8 (a : Int)).toNat = a := by
    rw [BitVec.ofInt_natCast, BitVec.toNat_ofNat]; exact Nat.mod_eq_of_lt (by omega)
  have h2 : (BitVec.ofInt 8 (b : Int)).toNat = b := by
    rw [BitVec.ofInt_natCast, BitVec.toNat_ofNat]; exact Nat.mod_eq_of_lt (by omega)
  show IntKind.u8.wrap ((BitVec.ofInt 8 (a : Int) ^^^ BitVec.ofInt 8 (b : Int)).toNat : Int) = _
  rw [BitVec.toNat_xor, h1, h2, IntKind.wrap_u8]
  omega
theorem nxor_inj {a b c : Nat} (h : a ^^^ c = b ^^^ c) : a = b := by
  have := congrArg (· ^^^ c) h
  simp only [Nat.xor_assoc, Nat.xor_self, Nat.xor_zero] at this
  exact this
theorem xor32_inj {x y p : Int} (hx : 0 ≤ x ∧ x < 4294967296) (hy : 0 ≤ y ∧ y < 4294967296) (hp : 0 ≤ p ∧ p < 4294967296) (h : Go.bits .xor .u32 x p = Go.bits .xor .u32 y p) : x = y := by
  obtain ⟨a, rfl⟩ := Int.eq_ofNat_of_zero_le hx.1
  obtain ⟨b, rfl⟩ := Int.eq_ofNat_of_zero_le hy.1
  obtain ⟨c, rfl⟩ := Int.eq_ofNat_of_zero_le hp.1
  rw [xor32 a c (by omega) (by omega), xor32 b c (by omega) (by omega)] at h
  rw [nxor_inj (Int.ofNat.inj h)]
theorem xor32_injr {x p q : Int} (hx : 0 ≤ x ∧ x < 4294967296) (hp : 0 ≤ p ∧ p < 4294967296) (hq : 0 ≤ q ∧ q < 4294967296) (h : Go.bits .xor .u32 x p = Go.bits .xor .u32 x q) : p = q := by
  obtain ⟨a, rfl⟩ := Int.eq_ofNat_of_zero_le hx.1
  obtain ⟨b, rfl⟩ := Int.eq_ofNat_of_zero_le hp.1
  obtain ⟨c, rfl⟩ := Int.eq_ofNat_of_zero_le hq.1
  rw [xor32 a b (by omega) (by omega), xor32 a c (by omega) (by omega)] at h
  have h' := Int.ofNat.inj h
  rw [Nat.xor_comm a b, Nat.xor_comm a c] at h'
  rw [nxor_inj h']
theorem xor32_high {x : Int} (h0 : 0 ≤ x) (h1 : x < 2147483648) : 2147483648 ≤ Go.bits .xor .u32 x 3558460437 := by
  obtain ⟨a, rfl⟩ := Int.eq_ofNat_of_zero_le h0
  have e := xor32 a 3558460437 (by omega) (by decide)
  have t1 : a.testBit 31 = false := Nat.testBit_lt_two_pow (by omega)
  have t2 : Nat.testBit 3558460437 31 = true := by decide
  have t3 : (a ^^^ 3558460437).testBit 31 = true := by rw [Nat.testBit_xor, t1, t2]; rfl
  have := Nat.ge_two_pow_of_testBit t3
  have e' : Go.bits .xor .u32 (a : Int) 3558460437 = ((a ^^^ 3558460437 : Nat) : Int) := e
  rw [e']
  omega
theorem crcBit_inj {x y : Int} (hx : 0 ≤ x ∧ x < 4294967296) (hy : 0 ≤ y ∧ y < 4294967296) (h : crcBit x = crcBit y) : x = y := by
  unfold crcBit at h
  by_cases c : x % 2 = 1
  · rw [if_pos c] at h
    by_cases d : y % 2 = 1
    · rw [if_pos d] at h
      have := xor32_inj (by omega) (by omega) (by omega) h
      omega
    · rw [if_neg d] at h
      have := xor32_high (x := x / 2) (by omega) (by omega)
      omega
  · rw [if_neg c] at h
    by_cases d : y % 2 = 1
    · rw [if_pos d] at h
      have := xor32_high (x := y / 2) (by omega) (by omega)
      omega
    · rw [if_neg d] at h
      omega
theorem crcBits_inj : ∀ (d : Nat) {x y : Int}, 0 ≤ x ∧ x < 4294967296 → 0 ≤ y ∧ y < 4294967296 → crcBits d x = crcBits d y → x = y
  | 0, x, y, hx, hy, h => h
  | d + 1, x, y, hx, hy, h => crcBit_inj hx hy (crcBits_inj d (crcBit_range hx.1 hx.2) (crcBit_range hy.1 hy.2) h)
theorem crcByte_inj {x y b : Int} (hx : 0 ≤ x ∧ x < 4294967296) (hy : 0 ≤ y ∧ y < 4294967296) (hb : 0 ≤ b ∧ b ≤ 255) (h : crcByte x b = crcByte y b) : x = y :=
  xor32_inj hx hy ⟨hb.1, by omega⟩ (crcBits_inj 8 (xor_range _ _) (xor_range _ _) h)
theorem crcByte_injr {x a b : Int} (hx : 0 ≤ x ∧ x < 4294967296) (ha : 0 ≤ a ∧ a ≤ 255) (hb : 0 ≤ b ∧ b ≤ 255) (h : crcByte x a = crcByte x b) : a = b :=
  xor32_injr hx ⟨ha.1, by omega⟩ ⟨hb.1, by omega⟩ (crcBits_inj 8 (xor_range _ _) (xor_range _ _) h)
def sumL : List Int → Int → Int
  | [], x => x
  | b :: l, x => sumL l (crcByte x b)
theorem sumL_inj : ∀ (l : List Int) {x y : Int}, (∀ b ∈ l, 0 ≤ b ∧ b ≤ 255) → 0 ≤ x ∧ x < 4294967296 → 0 ≤ y ∧ y < 4294967296 → sumL l x = sumL l y → x = y
  | [], x, y, hl, hx, hy, h => h
  | b :: l, x, y, hl, hx, hy, h => crcByte_inj hx hy (hl b (by simp)) (sumL_inj l (fun c hc => hl c (by simp [hc])) (crcByte_range x b) (crcByte_range y b) h)
theorem sumL_set : ∀ (l : List Int) (i : Nat) (v : Int) {x : Int}, (∀ b ∈ l, 0 ≤ b ∧ b ≤ 255) → 0 ≤ x ∧ x < 4294967296 → (hi : i < l.length) → 0 ≤ v ∧ v ≤ 255 → v ≠ l[i] → sumL (l.set i v) x ≠ sumL l x
  | [], i, v, x, hl, hx, hi, hv, hne => by simp at hi
  | b :: l, 0, v, x, hl, hx, hi, hv, hne => fun h => hne (crcByte_injr hx hv (hl b (by simp)) (sumL_inj l (fun c hc => hl c (by simp [hc])) (crcByte_range x v) (crcByte_range x b) h))
  | b :: l, i + 1, v, x, hl, hx, hi, hv, hne => sumL_set l i v (fun c hc => hl c (by simp [hc])) (crcByte_range x b) (by simpa using hi) hv (by simpa using hne)
theorem sumL_range : ∀ (l : List Int) {x : Int}, 0 ≤ x ∧ x < 4294967296 → 0 ≤ sumL l x ∧ sumL l x < 4294967296
  | [], x, hx => hx
  | b :: l, x, hx => sumL_range l (crcByte_range x b)
theorem sumL_app : ∀ (a b : List Int) (x : Int), sumL (a ++ b) x = sumL b (sumL a x)
  | [], b, x => rfl
  | c :: a, b, x => sumL_app a b (crcByte x c)
theorem sumFrom_L (s : ByteArray) : ∀ (d i : Nat) (x : Int), i + d = s.size → sumFrom s d i x = sumL ((nl s.data.toList).drop i) x
  | 0, i, x, h => by rw [List.drop_eq_nil_of_le (by rw [nl_len]; omega)]; rfl
  | d + 1, i, x, h => by
    have hl : i < (nl s.data.toList).length := by rw [nl_len]; omega
    rw [List.drop_eq_getElem_cons hl]
    show sumFrom s d (i + 1) (crcByte x (bt s i)) = sumL ((nl s.data.toList).drop (i + 1)) (crcByte x _)
    rw [sumFrom_L s d (i + 1) _ (by omega), bt_nl, List.getD_eq_getElem?_getD, List.getElem?_eq_getElem hl]
    rfl
def sm (s : ByteArray) : Int := sumFrom s s.size 0 4294967295
theorem sm_is (s : ByteArray) : sm s = sumL (nl s.data.toList) 4294967295 := by rw [sm, sumFrom_L s s.size 0 _ (by omega), List.drop_zero]
theorem sm_range (s : ByteArray) : 0 ≤ sm s ∧ sm s < 4294967296 := by rw [sm_is]; exact sumL_range _ (by omega)
def four (x : Int) : List Int := [(x / 16777216) % 256, (x / 65536) % 256, (x / 256) % 256, x % 256]
theorem four_range (x : Int) : ∀ b ∈ four x, 0 ≤ b ∧ b ≤ 255 := by
  intro b hb
  simp only [four, List.mem_cons, List.not_mem_nil, or_false] at hb
  omega
theorem four_inj {x y : Int} (hx : 0 ≤ x ∧ x < 4294967296) (hy : 0 ≤ y ∧ y < 4294967296) (h : four x = four y) : x = y := by
  simp only [four, List.cons.injEq, and_true] at h
  omega
theorem fourB_is (x : Int) : fourB x = strOfNums (four x) := rfl
theorem nl_inj {a b : ByteArray} (h : nl a.data.toList = nl b.data.toList) : a = b := by rw [← str_nl a, ← str_nl b, h]
theorem nl_extract (s : ByteArray) (a b : Nat) : nl (s.extract a b).data.toList = ((nl s.data.toList).drop a).take (b - a) := by
  rw [ByteArray.data_extract, Array.toList_extract, List.extract_eq_take_drop]
  simp only [nl, List.map_take, List.map_drop]
theorem unsealed_cond (u : ByteArray) (n : Nat) (hu : u.size = n + 4) (h : (u.extract (u.size - 4) u.size).toList = (strOfNums (four (sm (u.extract 0 (u.size - 4))))).toList) :
    (nl u.data.toList).drop n = four (sumL ((nl u.data.toList).take n) 4294967295) := by
  have hl : (nl u.data.toList).length = n + 4 := by rw [nl_len, hu]
  rw [Lib.toList_data, Lib.toList_data] at h
  have h2 := congrArg nl h
  rw [nl_str _ (four_range _), nl_extract, sm_is, nl_extract, hu] at h2
  rw [show n + 4 - 4 = n by omega, show n + 4 - n = 4 by omega, List.drop_zero, Nat.sub_zero, List.take_of_length_le (by rw [List.length_drop, hl]; omega)] at h2
  exact h2
theorem unsealed_back (s : ByteArray) (h : s.size ≤ 20000) : unsealedR (s ++ fourB (sm s)) = (s, true) := by
  have hz : (s ++ fourB (sm s)).size = s.size + 4 := by rw [ByteArray.size_append, fourB_size]
  have hn : nl (s ++ fourB (sm s)).data.toList = nl s.data.toList ++ four (sm s) := by rw [bdata_app, nl_app, fourB_is, nl_str _ (four_range _)]
  have hA : (nl s.data.toList).length = s.size := nl_len s
  have e1 : (s ++ fourB (sm s)).extract 0 (s.size + 4 - 4) = s := by
    refine nl_inj ?_
    rw [nl_extract, hn, show s.size + 4 - 4 = s.size by omega, List.drop_zero, Nat.sub_zero, List.take_left' hA]
  have e2 : ((s ++ fourB (sm s)).extract (s.size + 4 - 4) (s.size + 4)) = fourB (sm s) := by
    refine nl_inj ?_
    rw [nl_extract, hn, show s.size + 4 - 4 = s.size by omega, List.drop_left' hA, fourB_is, nl_str _ (four_range _)]
    exact List.take_of_length_le (by simp [four])
  unfold unsealedR
  rw [hz, if_neg (by omega), e1, e2]
  exact if_pos rfl
theorem unsealed_turned (s u : ByteArray) (h : s.size ≤ 20000) (i : Nat) (v : Int) (hi : i < s.size + 4) (hv : 0 ≤ v ∧ v ≤ 255) (hne : v ≠ (nl (s ++ fourB (sm s)).data.toList).getD i 0) (hu : nl u.data.toList = (nl (s ++ fourB (sm s)).data.toList).set i v) : (unsealedR u).2 = false := by
  have hn : nl (s ++ fourB (sm s)).data.toList = nl s.data.toList ++ four (sm s) := by rw [bdata_app, nl_app, fourB_is, nl_str _ (four_range _)]
  have hA : (nl s.data.toList).length = s.size := nl_len s
  rw [hn] at hu hne
  have hz : u.size = s.size + 4 := by rw [← nl_len u, hu, List.length_set, List.length_append, hA]; rfl
  unfold unsealedR
  rw [if_neg (by omega)]
  split
  · rename_i c
    exfalso
    have k := unsealed_cond u s.size hz c
    have r := sumL_range (nl s.data.toList) (x := 4294967295) (by omega)
    rw [hu] at k
    by_cases q : i < s.size
    · rw [List.set_append_left _ _ (by omega), List.drop_left' (by rw [List.length_set]; exact hA), List.take_left' (by rw [List.length_set]; exact hA), sm_is] at k
      have k2 := four_inj r (sumL_range _ (by omega)) k
      rw [List.getD_eq_getElem?_getD, List.getElem?_append_left (by omega), List.getElem?_eq_getElem (by omega)] at hne
      exact sumL_set _ i v (nl_range _) (by omega) (by omega) hv hne k2.symm
    · rw [List.set_append_right _ _ (by omega), List.drop_left' hA, List.take_left' hA, sm_is, hA] at k
      have hj : i - s.size < (four (sumL (nl s.data.toList) 4294967295)).length := by show i - s.size < 4; omega
      rw [List.getD_eq_getElem?_getD, List.getElem?_append_right (by omega), hA, sm_is, List.getElem?_eq_getElem hj] at hne
      have k3 := congrArg (fun l => l[i - s.size]?) k
      simp only [List.getElem?_set_self hj, List.getElem?_eq_getElem hj, Option.some.injEq] at k3
      exact hne k3
  · rfl
theorem more_is (s x : ByteArray) : sumFrom x x.size 0 (sm s) = sm (s ++ x) := by
  rw [sumFrom_L x x.size 0 _ (by omega), sm_is, sm_is, bdata_app, nl_app, sumL_app, List.drop_zero]
theorem tplaces_l0 (s : List Int) (hs : s.length ≤ 140737488355328) : ∀ (d i : Nat) (p g : Int) (out : List Int), i + d = 12 → out.length = i → (∀ x ∈ out, 0 ≤ x ∧ x < 10000) → OkAt s p → ∃ t : List Int, Ev (fun k => spec_DrawPlaces.l0 k out (i : Int) s p g) t ∧ t.length = 12 ∧ ∀ x ∈ t, 0 ≤ x ∧ x < 10000
  | 0, i, p, g, out, h, ho, hr, hp => by
    refine ⟨out, ev_s0 fun k => ?_, by omega, hr⟩
    rw [spec_DrawPlaces.l0, if_neg (by omega)]
  | d + 1, i, p, g, out, h, ho, hr, hp => by
    obtain ⟨v, i1, g1, e, v0, v1, h1⟩ := below_is s hs p g 10000 (by omega) hp
    obtain ⟨t, r, rl⟩ := tplaces_l0 s hs d (i + 1) i1 g1 (out ++ [v]) (by omega) (by simp; omega) (fun x hx => by
      rcases List.mem_append.1 hx with hx | hx
      · exact hr x hx
      · rw [List.mem_singleton.1 hx]; exact ⟨v0, v1⟩) h1
    have w : wrap64 ((i : Int) + 1) = ((i + 1 : Nat) : Int) := by unfold wrap64; omega
    refine ⟨t, ev_s1 r fun k ek => ?_, rl⟩
    rw [spec_DrawPlaces.l0, if_pos (by omega), e, Option.bind_some, if_pos (by omega), w]
    exact ek
theorem tplaces_is (l : List Int) (hs : l.length ≤ 140737488355328) : ∃ t : List Int, Ev (fun k => spec_DrawPlaces.f k l) t ∧ t.length = 12 ∧ ∀ x ∈ t, 0 ≤ x ∧ x < 10000 := by
  obtain ⟨g, e⟩ := new_is l hs
  obtain ⟨v, i1, g1, e1, v0, v1, h1⟩ := byte_is l hs 0 g ⟨by omega, by omega⟩
  obtain ⟨t, r, rl⟩ := tplaces_l0 l hs 12 0 i1 g1 [] (by omega) (by simp) (by simp) h1
  refine ⟨t, ev_a2 e r fun k ek rk => ?_, rl⟩
  rw [spec_DrawPlaces.f, ek, Option.bind_some]
  simp only
  rw [e1, Option.bind_some]
  exact rk
theorem ttext_l0 (s : List Int) (hs : s.length ≤ 140737488355328) (a : Int) (ha : a ≤ 5000) : ∀ (d n : Nat) (x : List Int) (i g : Int), a ≤ (n + d : Int) → n + d ≤ 5000 → x.length = n → OkAt s i → ∃ r, Ev (fun k => spec_l01Text.l0 k a x (n : Int) s i g) r ∧ r.1.size ≤ 5000
  | 0, n, x, i, g, h, h5, hx, ho => ⟨(strOfNums x, i, g), ev_s0 fun k => by rw [spec_l01Text.l0, if_neg (by omega)], by rw [strOfNums_size]; omega⟩
  | d + 1, n, x, i, g, h, h5, hx, ho => by
    by_cases c : (n : Int) < a
    · obtain ⟨v, i1, g1, e1, _, _, h1⟩ := byte_is s hs i g ho
      obtain ⟨r, e, hr⟩ := ttext_l0 s hs a ha d (n + 1) (x ++ [v % 256]) i1 g1 (by omega) (by omega) (by rw [List.length_append, hx]; rfl) h1
      refine ⟨r, ev_s1 e fun k ek => ?_, hr⟩
      have q : x.length < 140737488355328 := by omega
      have w : wrap64 ((n : Int) + 1) = ((n + 1 : Nat) : Int) := by clear ek e e1; unfold wrap64; omega
      rw [spec_l01Text.l0, if_pos c, e1, Option.bind_some, if_pos q, w]
      exact ek
    · exact ⟨(strOfNums x, i, g), ev_s0 fun k => by rw [spec_l01Text.l0, if_neg c], by rw [strOfNums_size]; omega⟩
theorem sumtext_is (l : List Int) (hs : l.length ≤ 140737488355328) : ∃ t, Ev (fun k => spec_DrawSumOf.f k l) t ∧ t.size ≤ 5000 := by
  obtain ⟨g, e⟩ := new_is l hs
  obtain ⟨v, i2, g2, e2, v0, v1, h2⟩ := below_is l hs 0 g 40 (by omega) ⟨by omega, by omega⟩
  obtain ⟨r, er, hr⟩ := ttext_l0 l hs v (by omega) 5000 0 [] i2 g2 (by omega) (by omega) rfl h2
  have er' : Ev (fun k => spec_l01Text.f k l i2 g2 v) r := ev_s1 er fun k ek => by rw [spec_l01Text.f, if_neg (by omega), spec_l01Text.j0]; exact ek
  exact ⟨r.1, ev_a2 e er' fun k ek ek2 => by rw [spec_DrawSumOf.f, ek, Option.bind_some, e2, Option.bind_some, ek2, Option.bind_some], hr⟩

theorem FnTurned : laws_FnTurned.Pure := by
  intro l hl hb hw
  by_cases q : (l.length : Int) > 1048576
  · refine ⟨0, ?_⟩
    rw [laws_FnTurned.f, laws_big.f, Option.bind_some, if_pos (decide_eq_true q)]
  obtain ⟨s, ⟨K1, e1⟩, hs⟩ := sumtext_is l (by omega)
  obtain ⟨p, ⟨K2, e2⟩, hp, hr⟩ := tplaces_is l (by omega)
  obtain ⟨K3, e3⟩ := impl_Sealed_ev s
  have hS : sealedR s = (s ++ fourB (sm s), true) := by unfold sealedR; rw [if_neg (by omega)]; rfl
  rw [hS] at e3
  have hz : (s ++ fourB (sm s)).size = s.size + 4 := by rw [ByteArray.size_append, fourB_size]
  obtain ⟨K4, e4⟩ := impl_Unsealed_ev (s ++ fourB (sm s)) (by omega)
  rw [unsealed_back s (by omega)] at e4
  have hl2 : (bytesL (s ++ fourB (sm s))).length = s.size + 4 := by rw [bytesL_length, hz]
  have p0 := hr p[0] (List.getElem_mem (by omega))
  have p1 := hr p[1] (List.getElem_mem (by omega))
  have r0 : rd p 0 = p[0] := trd_nat p 0 (by omega)
  have r1 : rd p 1 = p[1] := trd_nat p 1 (by omega)
  generalize p[0] = a at p0 r0
  generalize p[1] = b at p1 r1
  obtain ⟨a, rfl⟩ := Int.eq_ofNat_of_zero_le p0.1
  obtain ⟨b, rfl⟩ := Int.eq_ofNat_of_zero_le p1.1
  have ti : Int.tmod (a : Int) ((s.size + 4 : Nat) : Int) = ((a % (s.size + 4) : Nat) : Int) := by rw [Int.natCast_emod]; exact Int.tmod_eq_emod_of_nonneg (by omega)
  have hi : a % (s.size + 4) < s.size + 4 := Nat.mod_lt _ (by omega)
  generalize hi' : a % (s.size + 4) = i at ti hi
  have hb5 : Int.tmod (b : Int) 255 = ((b % 255 : Nat) : Int) := by rw [Int.natCast_emod]; exact Int.tmod_eq_emod_of_nonneg (by omega)
  have hc5 : b % 255 < 255 := Nat.mod_lt _ (by decide)
  generalize b % 255 = c at hb5 hc5
  have hd : 1 + c < 256 := Nat.add_lt_add_left hc5 1
  have hd0 : 0 < 1 + c := by rw [Nat.add_comm]; exact Nat.succ_pos c
  obtain ⟨d, hd'⟩ : ∃ d : Nat, d = 1 + c := ⟨_, rfl⟩
  rw [← hd'] at hd hd0
  have hxr : 0 ≤ rd (bytesL (s ++ fourB (sm s))) (i : Int) ∧ rd (bytesL (s ++ fourB (sm s))) (i : Int) ≤ 255 := by
    rw [trd_nat _ i (by omega)]
    exact nl_range _ _ (List.getElem_mem _)
  have hget : rd (bytesL (s ++ fourB (sm s))) (i : Int) = (nl (s ++ fourB (sm s)).data.toList).getD i 0 := by
    rw [trd_nat _ i (by omega), List.getD_eq_getElem?_getD, List.getElem?_eq_getElem (show i < (nl (s ++ fourB (sm s)).data.toList).length by rw [nl_len]; omega)]
    rfl
  obtain ⟨x, hx⟩ := Int.eq_ofNat_of_zero_le hxr.1
  have hv : Go.bits .xor .u8 (x : Int) (d : Int) = ((x ^^^ d : Nat) : Int) := xor8 x d (by omega) hd
  have hvr : x ^^^ d < 2 ^ 8 := Nat.xor_lt_two_pow (by omega) (by omega)
  have hvn : x ^^^ d ≠ x := fun h => by
    have : x ^^^ d = x ^^^ 0 := by rw [h, Nat.xor_zero]
    rw [Nat.xor_comm x d, Nat.xor_comm x 0] at this
    have := nxor_inj this
    omega
  have hall : ∀ z ∈ (bytesL (s ++ fourB (sm s))).set i ((x ^^^ d : Nat) : Int), 0 ≤ z ∧ z ≤ 255 := by
    intro z hz'
    rcases List.mem_or_eq_of_mem_set hz' with h | h
    · exact nl_range _ z h
    · rw [h]; omega
  have hu : nl (strOfNums ((bytesL (s ++ fourB (sm s))).set i ((x ^^^ d : Nat) : Int))).data.toList = (nl (s ++ fourB (sm s)).data.toList).set i ((x ^^^ d : Nat) : Int) := nl_str _ hall
  obtain ⟨K5, e5⟩ := impl_Unsealed_ev (strOfNums ((bytesL (s ++ fourB (sm s))).set i ((x ^^^ d : Nat) : Int))) (by rw [strOfNums_size, List.length_set, hl2]; omega)
  have hf := unsealed_turned s _ (by omega) i ((x ^^^ d : Nat) : Int) hi (by omega) (by rw [← hget, hx]; omega) hu
  have hxs : (⟨#[120]⟩ : ByteArray).size = 1 := rfl
  obtain ⟨K6, e6⟩ := impl_SumOf_ev s (by omega)
  have hsr := sm_range s
  obtain ⟨K7, e7⟩ := impl_SumMore_ev (⟨#[120]⟩ : ByteArray) (by omega) (sm s) hsr.1 hsr.2
  obtain ⟨K8, e8⟩ := impl_SumOf_ev (s ++ (⟨#[120]⟩ : ByteArray)) (by rw [ByteArray.size_append]; omega)
  have hm := more_is s (⟨#[120]⟩ : ByteArray)
  generalize hK : K1 + K2 + K3 + K4 + K5 + K6 + K7 + K8 = K
  have f1 : spec_DrawSumOf.f (K + 1) l = some s := e1 (K + 1) (by omega)
  have f2 : spec_DrawPlaces.f (K + 1) l = some p := e2 (K + 1) (by omega)
  have f3 : impl_Sealed.f (K + 1) s = some (s ++ fourB (sm s), true) := e3 (K + 1) (by omega)
  have f4 : impl_Unsealed.f (K + 1) (s ++ fourB (sm s)) = some (s, true) := e4 (K + 1) (by omega)
  have f5 : impl_Unsealed.f K (strOfNums ((bytesL (s ++ fourB (sm s))).set i ((x ^^^ d : Nat) : Int))) = some _ := e5 K (by omega)
  have g6 : impl_SumOf.f K s = some (sm s) := e6 K (by omega)
  have f7 : impl_SumMore.f K (sm s) (⟨#[120]⟩ : ByteArray) = some (sumFrom (⟨#[120]⟩ : ByteArray) (⟨#[120]⟩ : ByteArray).size 0 (sm s)) := e7 K (by omega)
  have g8 : impl_SumOf.f K (s ++ (⟨#[120]⟩ : ByteArray)) = some (sm (s ++ (⟨#[120]⟩ : ByteArray))) := e8 K (by omega)
  have c0 : (s ++ fourB (sm s)).size ≤ 9223372036854775807 := by omega
  have c1 : 0 < (p.length : Int) := by omega
  have c2 : ¬ ((s.size + 4 : Nat) : Int) = 0 := by omega
  have c3 : 0 ≤ (i : Int) := by omega
  have c4 : (i : Int) < ((s.size + 4 : Nat) : Int) := by omega
  have c5 : 1 < (p.length : Int) := by omega
  have c6 : s.size + 1 ≤ 9223372036854775807 := by omega
  have tj : (wrap64 (1 + (Int.tmod (b : Int) 255))) % 256 = (d : Int) := by
    rw [hb5, b_w64 (x := 1 + (c : Int)) (by omega) (by omega)]
    omega
  have hw4 : wrap64 ((s.size : Int) + 4) = ((s.size + 4 : Nat) : Int) := by unfold wrap64; omega
  have hlen : ((bytesL (s ++ fourB (sm s))).length : Int) = ((s.size + 4 : Nat) : Int) := by rw [hl2]
  have hbne : (((s ++ fourB (sm s)).size : Int) != wrap64 ((s.size : Int) + 4)) = false := by rw [hw4, hz]; exact bne_self_eq_false _
  refine ⟨K + 1, ?_⟩
  rw [laws_FnTurned.f, laws_big.f, Option.bind_some, if_neg (by simpa using q), f1, Option.bind_some, f2, Option.bind_some, f3, Option.bind_some]
  simp only
  rw [f4, Option.bind_some]
  simp only [if_true]
  rw [hbne, laws_FnTurned.j0, if_neg (show ¬ (false = true) by decide), if_pos c0, Option.bind_some, if_pos c1, hlen, if_neg c2, r0, r1, ti, tj, hx, hv, if_pos c3, if_pos c4, if_pos c5, Int.toNat_natCast, f5, Option.bind_some, hf, if_neg (show ¬ (false = true) by decide), g6, Option.bind_some, f7, Option.bind_some, if_pos c6, g8, Option.bind_some, hm]
  simp
end Go.Proofs.Ytnlhjblfemgggaa.Pure
