/- The program's Hex returns what the reference's returns, for every text. No condition beside what the statement itself asks. -/
import Derived.Test.YtnjnknmdipjmdaaPFnExactHexx1
set_option linter.unusedVariables false
set_option linter.unusedSimpArgs false
namespace Go.Proofs.Ytnjnknmdipjmdaa.Pure
open Go.RowKit Go.Proofs.Ytnjnknmdipjmdaa.PFnExactHex Go.Proofs.YtnjnknmdipjmdaaW.PrintWords Go.Proofs.YtnjnknmdipjmdaaW.PrintLast

theorem b_w64 {x : Int} (h0 : -9223372036854775808 ≤ x) (h1 : x ≤ 9223372036854775807) : wrap64 x = x := by unfold wrap64; omega
theorem b_i64 {x : Int} (h : (Lit.int .i64 x).wf = true) : -9223372036854775808 ≤ x ∧ x ≤ 9223372036854775807 := by
  simp only [Lit.wf, Bool.and_eq_true, decide_eq_true_eq] at h
  have h1 : IntKind.i64.min = -9223372036854775808 := by decide
  have h2 : IntKind.i64.max = 9223372036854775807 := by decide
  omega
theorem b_u32 {x : Int} (h : (Lit.int .u32 x).wf = true) : 0 ≤ x ∧ x < 4294967296 := by
  simp only [Lit.wf, Bool.and_eq_true, decide_eq_true_eq] at h
  have h1 : IntKind.u32.min = 0 := by decide
  have h2 : IntKind.u32.max = 4294967295 := by decide
  omega
theorem b_tmod {x y : Int} (h : 0 ≤ x) : Int.tmod x y = x % y := Int.tmod_eq_emod_of_nonneg h
theorem b_tdiv {x y : Int} (h : 0 ≤ x) : Int.tdiv x y = x / y := Int.tdiv_eq_ediv_of_nonneg h
theorem b_ev_eq {α : Type} {g : Nat → Option α} {r r' : α} (h : Ev g r) (e : r = r') : Ev g r' := e ▸ h
theorem b_two {α β : Type} {g : Nat → Option α} {f : Nat → Option β} {a : α} {b : β} (h : Ev g a) (h' : Ev f b) : ∃ k, g k = some a ∧ f k = some b := by
  obtain ⟨K, h⟩ := h
  obtain ⟨K', h'⟩ := h'
  exact ⟨max K K', h _ (by omega), h' _ (by omega)⟩
theorem b_list_take_succ {α : Type} (l : List α) (i : Nat) (h : i < l.length) : l.take (i + 1) = l.take i ++ [l[i]] := by
  rw [List.take_succ_eq_append_getElem h]
theorem ev_a0 {α : Type} {F : Nat → Option α} {r : α} (H : ∀ k, F k = some r) : Ev F r := ⟨0, fun k _ => H k⟩
theorem ev_s0 {α : Type} {F : Nat → Option α} {r : α} (H : ∀ k, F (k + 1) = some r) : Ev F r := by
  refine ⟨1, fun k hk => ?_⟩
  obtain ⟨m, rfl⟩ : ∃ m, k = m + 1 := ⟨k - 1, by omega⟩
  exact H m
theorem ev_a1 {α β : Type} {F : Nat → Option α} {r : α} {g : Nat → Option β} {a : β} (ha : Ev g a) (H : ∀ k, g k = some a → F k = some r) : Ev F r := by
  obtain ⟨K, ha⟩ := ha
  exact ⟨K, fun k hk => H k (ha k hk)⟩
theorem ev_s1 {α β : Type} {F : Nat → Option α} {r : α} {g : Nat → Option β} {a : β} (ha : Ev g a) (H : ∀ k, g k = some a → F (k + 1) = some r) : Ev F r := by
  obtain ⟨K, ha⟩ := ha
  refine ⟨K + 1, fun k hk => ?_⟩
  obtain ⟨m, rfl⟩ : ∃ m, k = m + 1 := ⟨k - 1, by omega⟩
  exact H m (ha m (by omega))
theorem ev_and {α β : Type} {g : Nat → Option α} {f : Nat → Option β} {a : α} {b : β} (ha : Ev g a) (hb : Ev f b) : ∃ K, ∀ k, K ≤ k → g k = some a ∧ f k = some b := by
  obtain ⟨K, ha⟩ := ha
  obtain ⟨K', hb⟩ := hb
  exact ⟨max K K', fun k hk => ⟨ha k (by omega), hb k (by omega)⟩⟩
theorem ev_a2 {α β γ : Type} {F : Nat → Option α} {r : α} {g : Nat → Option β} {a : β} {f : Nat → Option γ} {b : γ} (ha : Ev g a) (hb : Ev f b) (H : ∀ k, g k = some a → f k = some b → F k = some r) : Ev F r := by
  obtain ⟨K, h⟩ := ev_and ha hb
  exact ⟨K, fun k hk => H k (h k hk).1 (h k hk).2⟩
theorem ev_s2 {α β γ : Type} {F : Nat → Option α} {r : α} {g : Nat → Option β} {a : β} {f : Nat → Option γ} {b : γ} (ha : Ev g a) (hb : Ev f b) (H : ∀ k, g k = some a → f k = some b → F (k + 1) = some r) : Ev F r := by
  obtain ⟨K, h⟩ := ev_and ha hb
  refine ⟨K + 1, fun k hk => ?_⟩
  obtain ⟨m, rfl⟩ : ∃ m, k = m + 1 := ⟨k - 1, by omega⟩
  exact H m (h m (by omega)).1 (h m (by omega)).2
theorem ev_a3 {α β γ δ : Type} {F : Nat → Option α} {r : α} {g : Nat → Option β} {a : β} {f : Nat → Option γ} {b : γ} {e : Nat → Option δ} {c : δ} (ha : Ev g a) (hb : Ev f b) (hc : Ev e c) (H : ∀ k, g k = some a → f k = some b → e k = some c → F k = some r) : Ev F r := by
  obtain ⟨K, h⟩ := ev_and ha hb
  obtain ⟨K', h'⟩ := hc
  exact ⟨max K K', fun k hk => H k (h k (by omega)).1 (h k (by omega)).2 (h' k (by omega))⟩
theorem ev_s3 {α β γ δ : Type} {F : Nat → Option α} {r : α} {g : Nat → Option β} {a : β} {f : Nat → Option γ} {b : γ} {e : Nat → Option δ} {c : δ} (ha : Ev g a) (hb : Ev f b) (hc : Ev e c) (H : ∀ k, g k = some a → f k = some b → e k = some c → F (k + 1) = some r) : Ev F r := by
  obtain ⟨K, h⟩ := ev_and ha hb
  obtain ⟨K', h'⟩ := hc
  refine ⟨max K K' + 1, fun k hk => ?_⟩
  obtain ⟨m, rfl⟩ : ∃ m, k = m + 1 := ⟨k - 1, by omega⟩
  exact H m (h m (by omega)).1 (h m (by omega)).2 (h' m (by omega))

def hexD (x : Int) : Int := if x < 10 then 48 + x else 87 + x
def hexFrom (s : ByteArray) : Nat → Nat → List Int → List Int
  | 0, _, acc => acc
  | d + 1, i, acc => hexFrom s d (i + 1) (acc ++ [hexD (bt s i / 16), hexD (bt s i % 16)])
theorem spec_l01Figure_is (x : Int) (h0 : 0 ≤ x) (h1 : x < 16) : spec_l01Figure.f x = some (hexD x) := by
  unfold spec_l01Figure.f hexD
  split
  · congr 1; unfold wrap64; omega
  · congr 1; unfold wrap64; omega
theorem impl_hexD (x : Int) (h0 : 0 ≤ x) (h1 : x < 16) : bt (⟨#[48, 49, 50, 51, 52, 53, 54, 55, 56, 57, 97, 98, 99, 100, 101, 102]⟩ : ByteArray) x = hexD x := by
  obtain ⟨n, rfl⟩ := Int.eq_ofNat_of_zero_le h0
  have hn : n < 16 := by omega
  revert hn; clear h0 h1
  have : ∀ m : Fin 16, bt (⟨#[48, 49, 50, 51, 52, 53, 54, 55, 56, 57, 97, 98, 99, 100, 101, 102]⟩ : ByteArray) ((m.val : Nat) : Int) = hexD ((m.val : Nat) : Int) := by decide
  intro hn
  exact this ⟨n, hn⟩
theorem spec_Hex_l0 (s : ByteArray) : ∀ (d i : Nat) (acc : List Int), i + d = s.size → s.size ≤ 20000 → acc.length = 2 * i →
    Ev (fun k => spec_Hex.l0 k s acc (i : Int)) (strOfNums (hexFrom s d i acc), true)
  | 0, i, acc, hi, hs, hl => Ev.step (fun k => by simp only [spec_Hex.l0]; rw [if_neg (by omega)]; rfl) (Ev.now _)
  | d + 1, i, acc, hi, hs, hl => by
    have hb := bt_range s i
    have ih := spec_Hex_l0 s d (i + 1) (acc ++ [hexD (bt s i / 16), hexD (bt s i % 16)]) (by omega) hs (by simp; omega)
    refine Ev.step (fun k => ?_) ih
    simp only [spec_Hex.l0]
    rw [if_pos (by omega), if_pos (by omega), show wrap64 (bt s i) = bt s i by unfold wrap64; omega, b_tdiv (by omega), b_tmod (by omega), show wrap64 (bt s i / 16) = bt s i / 16 by unfold wrap64; omega,
      spec_l01Figure_is _ (by omega) (by omega), spec_l01Figure_is _ (by omega) (by omega)]
    simp only [Option.bind_some]
    rw [if_pos (by simp; omega), show wrap64 ((i : Int) + 1) = ((i + 1 : Nat) : Int) by unfold wrap64; omega]
theorem spec_Hex_ev (s : ByteArray) : Ev (fun k => spec_Hex.f k s) (if (s.size : Int) > 20000 then ((⟨#[]⟩ : ByteArray), false) else (strOfNums (hexFrom s s.size 0 []), true)) := by
  by_cases h : (s.size : Int) > 20000
  · rw [if_pos h]
    exact Ev.congr (fun k => by simp only [spec_Hex.f]; rw [if_pos h]) (Ev.now _)
  · rw [if_neg h]
    exact Ev.congr (fun k => by simp only [spec_Hex.f]; rw [if_neg h]; rfl) (spec_Hex_l0 s s.size 0 [] (by omega) (by omega) rfl)
theorem impl_hex_l0 (s : ByteArray) : ∀ (d i : Nat) (acc : List Int), i + d = s.size → s.size ≤ 20000 → acc.length = 2 * i →
    Ev (fun k => impl_hex.l0 k s acc (i : Int)) (strOfNums (hexFrom s d i acc))
  | 0, i, acc, hi, hs, hl => Ev.step (fun k => by simp only [impl_hex.l0]; rw [if_neg (by omega)]; rfl) (Ev.now _)
  | d + 1, i, acc, hi, hs, hl => by
    have hb := bt_range s i
    have ih := impl_hex_l0 s d (i + 1) (acc ++ [hexD (bt s i / 16), hexD (bt s i % 16)]) (by omega) hs (by simp; omega)
    refine Ev.step (fun k => ?_) ih
    simp only [impl_hex.l0]
    rw [u8_and15 _ (by omega) (by omega), if_pos (by omega), if_pos (by omega), if_pos (by omega), if_pos (by omega), if_pos (by omega), if_pos (by omega), impl_hexD _ (by omega) (by omega), impl_hexD _ (by omega) (by omega)]
    simp only [Option.bind_some]
    rw [if_pos (by simp; omega), show wrap64 ((i : Int) + 1) = ((i + 1 : Nat) : Int) by unfold wrap64; omega]
theorem impl_Hex_ev (s : ByteArray) : Ev (fun k => impl_Hex.f k s) (if (s.size : Int) > 20000 then ((⟨#[]⟩ : ByteArray), false) else (strOfNums (hexFrom s s.size 0 []), true)) := by
  by_cases h : (s.size : Int) > 20000
  · rw [if_pos h]
    exact Ev.congr (fun k => by simp only [impl_Hex.f]; rw [if_pos h]) (Ev.now _)
  · rw [if_neg h]
    refine ev_a1 (impl_hex_l0 s s.size 0 [] (by omega) (by omega) rfl) (fun k e => ?_)
    simp only [impl_Hex.f]
    rw [if_neg h, show impl_hex.f k s = some (strOfNums (hexFrom s s.size 0 [])) from e]; rfl

theorem FnExactHex : laws_FnExactHex.Pure := by
  intro a0 hs
  obtain ⟨k, e1, e2⟩ := b_two (spec_Hex_ev a0) (impl_Hex_ev a0)
  refine ⟨k, ?_⟩
  simp only [laws_FnExactHex.f]
  split
  · rfl
  · rw [e1]; simp only [Option.bind_some]; rw [e2]; simp
end Go.Proofs.Ytnjnknmdipjmdaa.Pure
