/- The program's SumOf returns what the reference's returns, for every text. No condition beside what the statement itself asks. -/
import Derived.Test.YtnjnknmdipjmdaaPFnExactSumOfx1
set_option linter.unusedVariables false
set_option linter.unusedSimpArgs false
namespace Go.Proofs.Ytnjnknmdipjmdaa.Pure
open Go.RowKit Go.Proofs.Ytnjnknmdipjmdaa.PFnExactSumOf Go.Proofs.YtnjnknmdipjmdaaW.PrintWords Go.Proofs.YtnjnknmdipjmdaaW.PrintLast

theorem b_w64 {x : Int} (h0 : -9223372036854775808 ≤ x) (h1 : x ≤ 9223372036854775807) : wrap64 x = x := by unfold wrap64; omega
theorem b_i64 {x : Int} (h : (Lit.int .i64 x).wf = true) : -9223372036854775808 ≤ x ∧ x ≤ 9223372036854775807 := by
  simp only [Lit.wf, Bool.and_eq_true, decide_eq_true_eq] at h
  have h1 : IntKind.i64.min = -9223372036854775808 := by decide
  have h2 : IntKind.i64.max = 9223372036854775807 := by decide
  omega
theorem b_u32 {x : Int} (h : (Lit.int .u32 x).wf = true) : 0 ≤ x ∧ x < 4294967296 := by
  simp only [Lit.wf, Bool.and_eq_true, decide_eq_true_eq] at h
  have h1 : IntKind.u32.min = 0 := by decide
  have h2 : IntKind.u32.max = 4294967295 := by decide
  omega
theorem b_tmod {x y : Int} (h : 0 ≤ x) : Int.tmod x y = x % y := Int.tmod_eq_emod_of_nonneg h
theorem b_tdiv {x y : Int} (h : 0 ≤ x) : Int.tdiv x y = x / y := Int.tdiv_eq_ediv_of_nonneg h
theorem b_ev_eq {α : Type} {g : Nat → Option α} {r r' : α} (h : Ev g r) (e : r = r') : Ev g r' := e ▸ h
theorem b_two {α β : Type} {g : Nat → Option α} {f : Nat → Option β} {a : α} {b : β} (h : Ev g a) (h' : Ev f b) : ∃ k, g k = some a ∧ f k = some b := by
  obtain ⟨K, h⟩ := h
  obtain ⟨K', h'⟩ := h'
  exact ⟨max K K', h _ (by omega), h' _ (by omega)⟩
theorem b_list_take_succ {α : Type} (l : List α) (i : Nat) (h : i < l.length) : l.take (i + 1) = l.take i ++ [l[i]] := by
  rw [List.take_succ_eq_append_getElem h]

def crcBit (x : Int) : Int := if x % 2 = 1 then Go.bits .xor .u32 (x / 2) 3558460437 else x / 2
def crcBits : Nat → Int → Int
  | 0, x => x
  | d + 1, x => crcBits d (crcBit x)
def crcByte (x b : Int) : Int := crcBits 8 (Go.bits .xor .u32 x b)
def sumFrom (s : ByteArray) : Nat → Nat → Int → Int
  | 0, _, x => x
  | d + 1, i, x => sumFrom s d (i + 1) (crcByte x (bt s i))
theorem xor_range (x y : Int) : 0 ≤ Go.bits .xor .u32 x y ∧ Go.bits .xor .u32 x y < 4294967296 := by
  unfold Go.bits
  simp only [IntKind.wrap_u32]
  omega
theorem crcBit_range {x : Int} (h0 : 0 ≤ x) (h1 : x < 4294967296) : 0 ≤ crcBit x ∧ crcBit x < 4294967296 := by
  unfold crcBit
  split
  · exact xor_range _ _
  · omega
theorem crcBits_range : ∀ (d : Nat) (x : Int), 0 ≤ x → x < 4294967296 → 0 ≤ crcBits d x ∧ crcBits d x < 4294967296
  | 0, x, h0, h1 => ⟨h0, h1⟩
  | d + 1, x, h0, h1 => crcBits_range d _ (crcBit_range h0 h1).1 (crcBit_range h0 h1).2
theorem crcByte_range (x b : Int) : 0 ≤ crcByte x b ∧ crcByte x b < 4294967296 := crcBits_range 8 _ (xor_range _ _).1 (xor_range _ _).2
theorem u32_and1 {x : Int} (h0 : 0 ≤ x) (h1 : x < 4294967296) : Go.bits .and .u32 x 1 = x % 2 := by
  have := Go.bits_mask .u32 32 (by decide) (fun n a b => by rw [IntKind.wrap_u32]; omega) 1 (by decide) x h0 (by omega)
  simpa using this
theorem spec_SumMore_l1 (s : ByteArray) (i : Int) (r : Int) : ∀ (d j : Nat) (x : Int), j + d = 8 → 0 ≤ x → x < 4294967296 →
    Ev (fun k => spec_SumMore.l0 k (crcBits d x) s (wrap64 (i + 1))) r → Ev (fun k => spec_SumMore.l1 k x s i (j : Int)) r
  | 0, j, x, hj, h0, h1, h => Ev.step (fun k => by simp only [spec_SumMore.l1]; rw [if_neg (by omega)]; rfl) h
  | d + 1, j, x, hj, h0, h1, h => by
    have ih := spec_SumMore_l1 s i r d (j + 1) (crcBit x) (by omega) (crcBit_range h0 h1).1 (crcBit_range h0 h1).2 h
    refine Ev.step (fun k => ?_) ih
    simp only [spec_SumMore.l1]
    rw [if_pos (by omega), b_tmod h0, show (Int.tdiv x 2) % 4294967296 = x / 2 by rw [b_tdiv h0]; omega, show wrap64 ((j : Int) + 1) = ((j + 1 : Nat) : Int) by unfold wrap64; omega]
    unfold crcBit
    split <;> rfl
theorem spec_SumMore_l0 (s : ByteArray) (hs : s.size ≤ 140737488351232) : ∀ (d i : Nat) (x : Int), i + d = s.size → 0 ≤ x → x < 4294967296 →
    Ev (fun k => spec_SumMore.l0 k x s (i : Int)) (sumFrom s d i x)
  | 0, i, x, hi, h0, h1 => Ev.step (fun k => by simp only [spec_SumMore.l0]; rw [if_neg (by omega)]) (Ev.now x)
  | d + 1, i, x, hi, h0, h1 => by
    have hr := crcByte_range x (bt s i)
    have ih := spec_SumMore_l0 s hs d (i + 1) (crcByte x (bt s i)) (by omega) hr.1 hr.2
    have hb := bt_range s i
    have e : bt s i % 4294967296 = bt s i := by omega
    have h := spec_SumMore_l1 s i (sumFrom s d (i + 1) (crcByte x (bt s i))) 8 0 (Go.bits .xor .u32 x (bt s i)) (by omega) (xor_range _ _).1 (xor_range _ _).2
      (by rw [show wrap64 ((i : Int) + 1) = ((i + 1 : Nat) : Int) by unfold wrap64; omega]; exact ih)
    refine Ev.step (fun k => ?_) h
    simp only [spec_SumMore.l0]
    rw [if_pos (by omega), if_pos (by omega), e]; rfl
theorem spec_SumMore_ev (s : ByteArray) (hs : s.size ≤ 140737488351232) (x : Int) (h0 : 0 ≤ x) (h1 : x < 4294967296) :
    Ev (fun k => spec_SumMore.f k x s) (sumFrom s s.size 0 x) := spec_SumMore_l0 s hs s.size 0 x (by omega) h0 h1
theorem impl_SumMore_l1 (s : ByteArray) (i : Int) (r : Int) : ∀ (d j : Nat) (x : Int), j + d = 8 → 0 ≤ x → x < 4294967296 →
    Ev (fun k => impl_SumMore.l0 k (crcBits d x) s (wrap64 (i + 1))) r → Ev (fun k => impl_SumMore.l1 k x s i (j : Int)) r
  | 0, j, x, hj, h0, h1, h => Ev.step (fun k => by simp only [impl_SumMore.l1]; rw [if_neg (by omega)]; rfl) h
  | d + 1, j, x, hj, h0, h1, h => by
    have ih := impl_SumMore_l1 s i r d (j + 1) (crcBit x) (by omega) (crcBit_range h0 h1).1 (crcBit_range h0 h1).2 h
    refine Ev.step (fun k => ?_) ih
    simp only [impl_SumMore.l1]
    rw [if_pos (by omega), u32_and1 h0 h1, show wrap64 ((j : Int) + 1) = ((j + 1 : Nat) : Int) by unfold wrap64; omega]
    unfold crcBit
    split <;> rfl
theorem impl_SumMore_l0 (s : ByteArray) (hs : s.size ≤ 140737488351232) : ∀ (d i : Nat) (x : Int), i + d = s.size → 0 ≤ x → x < 4294967296 →
    Ev (fun k => impl_SumMore.l0 k x s (i : Int)) (sumFrom s d i x)
  | 0, i, x, hi, h0, h1 => Ev.step (fun k => by simp only [impl_SumMore.l0]; rw [if_neg (by omega)]) (Ev.now x)
  | d + 1, i, x, hi, h0, h1 => by
    have hr := crcByte_range x (bt s i)
    have ih := impl_SumMore_l0 s hs d (i + 1) (crcByte x (bt s i)) (by omega) hr.1 hr.2
    have hb := bt_range s i
    have e : bt s i % 4294967296 = bt s i := by omega
    have h := impl_SumMore_l1 s i (sumFrom s d (i + 1) (crcByte x (bt s i))) 8 0 (Go.bits .xor .u32 x (bt s i)) (by omega) (xor_range _ _).1 (xor_range _ _).2
      (by rw [show wrap64 ((i : Int) + 1) = ((i + 1 : Nat) : Int) by unfold wrap64; omega]; exact ih)
    refine Ev.step (fun k => ?_) h
    simp only [impl_SumMore.l0]
    rw [if_pos (by omega), if_pos (by omega), e]; rfl
theorem impl_SumMore_ev (s : ByteArray) (hs : s.size ≤ 140737488351232) (x : Int) (h0 : 0 ≤ x) (h1 : x < 4294967296) :
    Ev (fun k => impl_SumMore.f k x s) (sumFrom s s.size 0 x) := impl_SumMore_l0 s hs s.size 0 x (by omega) h0 h1

theorem spec_SumOf_ev (s : ByteArray) (hs : s.size ≤ 140737488351232) : Ev (fun k => spec_SumOf.f k s) (sumFrom s s.size 0 4294967295) :=
  Ev.congr (fun k => by simp only [spec_SumOf.f]) (Ev.bind (spec_SumMore_ev s hs 4294967295 (by omega) (by omega)) (Ev.now _))
theorem impl_SumOf_ev (s : ByteArray) (hs : s.size ≤ 140737488351232) : Ev (fun k => impl_SumOf.f k s) (sumFrom s s.size 0 4294967295) :=
  Ev.congr (fun k => by simp only [impl_SumOf.f]) (Ev.bind (impl_SumMore_ev s hs 4294967295 (by omega) (by omega)) (Ev.now _))

theorem FnExactSumOf : laws_FnExactSumOf.Pure := by
  intro a0 hs
  obtain ⟨k, e1, e2⟩ := b_two (spec_SumOf_ev a0 hs) (impl_SumOf_ev a0 hs)
  refine ⟨k, ?_⟩
  simp only [laws_FnExactSumOf.f]
  split
  · rfl
  · rw [e1]; simp only [Option.bind_some]; rw [e2]; simp
end Go.Proofs.Ytnjnknmdipjmdaa.Pure
