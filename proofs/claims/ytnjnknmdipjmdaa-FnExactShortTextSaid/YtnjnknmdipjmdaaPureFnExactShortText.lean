/- The program's ShortText returns what the reference's returns, for every text. No condition beside what the statement itself asks. -/
import Derived.Test.YtnjnknmdipjmdaaPFnExactShortTextx1
set_option linter.unusedVariables false
set_option linter.unusedSimpArgs false
namespace Go.Proofs.Ytnjnknmdipjmdaa.Pure
open Go.RowKit Go.Proofs.Ytnjnknmdipjmdaa.PFnExactShortText Go.Proofs.YtnjnknmdipjmdaaW.PrintWords Go.Proofs.YtnjnknmdipjmdaaW.PrintLast

theorem b_w64 {x : Int} (h0 : -9223372036854775808 ≤ x) (h1 : x ≤ 9223372036854775807) : wrap64 x = x := by unfold wrap64; omega
theorem b_i64 {x : Int} (h : (Lit.int .i64 x).wf = true) : -9223372036854775808 ≤ x ∧ x ≤ 9223372036854775807 := by
  simp only [Lit.wf, Bool.and_eq_true, decide_eq_true_eq] at h
  have h1 : IntKind.i64.min = -9223372036854775808 := by decide
  have h2 : IntKind.i64.max = 9223372036854775807 := by decide
  omega
theorem b_u32 {x : Int} (h : (Lit.int .u32 x).wf = true) : 0 ≤ x ∧ x < 4294967296 := by
  simp only [Lit.wf, Bool.and_eq_true, decide_eq_true_eq] at h
  have h1 : IntKind.u32.min = 0 := by decide
  have h2 : IntKind.u32.max = 4294967295 := by decide
  omega
theorem b_tmod {x y : Int} (h : 0 ≤ x) : Int.tmod x y = x % y := Int.tmod_eq_emod_of_nonneg h
theorem b_tdiv {x y : Int} (h : 0 ≤ x) : Int.tdiv x y = x / y := Int.tdiv_eq_ediv_of_nonneg h
theorem b_ev_eq {α : Type} {g : Nat → Option α} {r r' : α} (h : Ev g r) (e : r = r') : Ev g r' := e ▸ h
theorem b_two {α β : Type} {g : Nat → Option α} {f : Nat → Option β} {a : α} {b : β} (h : Ev g a) (h' : Ev f b) : ∃ k, g k = some a ∧ f k = some b := by
  obtain ⟨K, h⟩ := h
  obtain ⟨K', h'⟩ := h'
  exact ⟨max K K', h _ (by omega), h' _ (by omega)⟩
theorem b_list_take_succ {α : Type} (l : List α) (i : Nat) (h : i < l.length) : l.take (i + 1) = l.take i ++ [l[i]] := by
  rw [List.take_succ_eq_append_getElem h]

def varL : Nat → Nat → List Int
  | 0, n => [(n : Int)]
  | d + 1, n => if 127 < n then ((128 + n % 128 : Nat) : Int) :: varL d (n / 128) else [(n : Int)]
theorem varL_length : ∀ (d n : Nat), (varL d n).length ≤ d + 1
  | 0, n => by simp [varL]
  | d + 1, n => by
    rw [varL]
    split
    · have := varL_length d (n / 128); simp; omega
    · simp

theorem spec_l01Var_l0 : ∀ (d n : Nat) (acc : List Int), n < 128 ^ (d + 1) → n < 9223372036854775808 → acc.length + d < 140737488355328 →
    Ev (fun k => spec_l01Var.l0 k (n : Int) acc) (strOfNums (acc ++ varL d n))
  | 0, n, acc, h, hn, hl => by
    refine Ev.step (fun k => ?_) (Ev.now _)
    simp only [spec_l01Var.l0]
    rw [if_neg (by omega), if_pos (by omega), show (n : Int) % 256 = n by omega]; rfl
  | d + 1, n, acc, h, hn, hl => by
    by_cases hc : 127 < n
    · have hd : n / 128 < 128 ^ (d + 1) := by
        rw [Nat.div_lt_iff_lt_mul (by decide), ← Nat.pow_succ]; exact h
      have ih := spec_l01Var_l0 d (n / 128) (acc ++ [((128 + n % 128 : Nat) : Int)]) hd (by omega) (by simp; omega)
      rw [List.append_assoc, List.singleton_append] at ih
      refine b_ev_eq (Ev.step (fun k => ?_) ih) (by rw [varL, if_pos hc])
      simp only [spec_l01Var.l0]
      rw [if_pos (by omega), if_pos (by omega), b_tdiv (by omega), b_tmod (by omega), show wrap64 ((n : Int) / 128) = ((n / 128 : Nat) : Int) by unfold wrap64; omega,
        show (wrap64 ((n : Int) % 128 + 128)) % 256 = ((128 + n % 128 : Nat) : Int) by unfold wrap64; omega]
    · refine b_ev_eq (Ev.step (fun k => ?_) (Ev.now _)) (by rw [varL, if_neg hc])
      simp only [spec_l01Var.l0]
      rw [if_neg (by omega), if_pos (by omega), show (n : Int) % 256 = n by omega]
theorem spec_l01Var_ev (n : Nat) (hn : n < 9223372036854775808) : Ev (fun k => spec_l01Var.f k (n : Int)) (strOfNums (varL 9 n)) :=
  spec_l01Var_l0 9 n [] (by omega) hn (by simp)

theorem impl_varText_l0 : ∀ (d n : Nat) (acc : List Int), n < 128 ^ (d + 1) → n < 9223372036854775808 → acc.length + d < 140737488355328 →
    Ev (fun k => impl_varText.l0 k (n : Int) acc) (strOfNums (acc ++ varL d n))
  | 0, n, acc, h, hn, hl => by
    refine Ev.step (fun k => ?_) (Ev.now _)
    simp only [impl_varText.l0]
    rw [if_neg (by omega), if_pos (by omega), show (n : Int) % 256 = n by omega]; rfl
  | d + 1, n, acc, h, hn, hl => by
    by_cases hc : 127 < n
    · have hd : n / 128 < 128 ^ (d + 1) := by
        rw [Nat.div_lt_iff_lt_mul (by decide), ← Nat.pow_succ]; exact h
      have ih := impl_varText_l0 d (n / 128) (acc ++ [((128 + n % 128 : Nat) : Int)]) hd (by omega) (by simp; omega)
      rw [List.append_assoc, List.singleton_append] at ih
      refine b_ev_eq (Ev.step (fun k => ?_) ih) (by rw [varL, if_pos hc])
      simp only [impl_varText.l0]
      rw [if_pos (by omega), if_pos (by omega), b_tdiv (by omega), b_tmod (by omega), show wrap64 ((n : Int) / 128) = ((n / 128 : Nat) : Int) by unfold wrap64; omega,
        show (wrap64 (128 + (n : Int) % 128)) % 256 = ((128 + n % 128 : Nat) : Int) by unfold wrap64; omega]
    · refine b_ev_eq (Ev.step (fun k => ?_) (Ev.now _)) (by rw [varL, if_neg hc])
      simp only [impl_varText.l0]
      rw [if_neg (by omega), if_pos (by omega), show (n : Int) % 256 = n by omega]
theorem impl_varText_ev (n : Nat) (hn : n < 9223372036854775808) : Ev (fun k => impl_varText.f k (n : Int)) (strOfNums (varL 9 n)) :=
  impl_varText_l0 9 n [] (by omega) hn (by simp)

theorem spec_ShortText_ev (s : ByteArray) : Ev (fun k => spec_ShortText.f k s) (if (s.size : Int) > 20000 then ((⟨#[]⟩ : ByteArray), false) else (strOfNums (varL 9 s.size) ++ s, true)) := by
  by_cases h : (s.size : Int) > 20000
  · rw [if_pos h]
    exact Ev.congr (fun k => by simp only [spec_ShortText.f]; rw [if_pos h]) (Ev.now _)
  · rw [if_neg h]
    have hv := spec_l01Var_ev s.size (by omega)
    have hl := varL_length 9 s.size
    refine Ev.congr (fun k => by simp only [spec_ShortText.f]; rw [if_neg h]) (Ev.bind hv ?_)
    refine Ev.congr (fun k => ?_) (Ev.now _)
    rw [if_pos (by rw [strOfNums_size]; omega)]
theorem impl_shortText_ev (s : ByteArray) (h : s.size ≤ 140737488351232) : Ev (fun k => impl_shortText.f k s) (strOfNums (varL 9 s.size) ++ s) := by
  have hv := impl_varText_ev s.size (by omega)
  have hl := varL_length 9 s.size
  refine Ev.congr (f := fun k => (impl_varText.f k (s.size : Int)).bind _) (fun k => by simp only [impl_shortText.f]; rfl) (Ev.bind hv ?_)
  refine Ev.congr (fun k => ?_) (Ev.now _)
  rw [if_pos (by rw [strOfNums_size]; omega)]
theorem impl_ShortText_ev (s : ByteArray) : Ev (fun k => impl_ShortText.f k s) (if (s.size : Int) > 20000 then ((⟨#[]⟩ : ByteArray), false) else (strOfNums (varL 9 s.size) ++ s, true)) := by
  by_cases h : (s.size : Int) > 20000
  · rw [if_pos h]
    exact Ev.congr (fun k => by simp only [impl_ShortText.f]; rw [if_pos h]) (Ev.now _)
  · rw [if_neg h]
    refine Ev.congr (fun k => by simp only [impl_ShortText.f]; rw [if_neg h]) (Ev.bind (impl_shortText_ev s (by omega)) (Ev.now _))

theorem FnExactShortText : laws_FnExactShortText.Pure := by
  intro a0 hs
  obtain ⟨k, e1, e2⟩ := b_two (spec_ShortText_ev a0) (impl_ShortText_ev a0)
  refine ⟨k, ?_⟩
  simp only [laws_FnExactShortText.f]
  split
  · rfl
  · rw [e1]; simp only [Option.bind_some]; rw [e2]; simp
end Go.Proofs.Ytnjnknmdipjmdaa.Pure
