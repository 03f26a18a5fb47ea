/- The program's VarText returns what the reference's returns, for every int. No condition beside what the statement itself asks. -/
import Derived.Test.YtnjnknmdipjmdaaPFnExactVarTextx1
set_option linter.unusedVariables false
set_option linter.unusedSimpArgs false
namespace Go.Proofs.Ytnjnknmdipjmdaa.Pure
open Go.RowKit Go.Proofs.Ytnjnknmdipjmdaa.PFnExactVarText Go.Proofs.YtnjnknmdipjmdaaW.PrintWords Go.Proofs.YtnjnknmdipjmdaaW.PrintLast

theorem b_w64 {x : Int} (h0 : -9223372036854775808 ≤ x) (h1 : x ≤ 9223372036854775807) : wrap64 x = x := by unfold wrap64; omega
theorem b_i64 {x : Int} (h : (Lit.int .i64 x).wf = true) : -9223372036854775808 ≤ x ∧ x ≤ 9223372036854775807 := by
  simp only [Lit.wf, Bool.and_eq_true, decide_eq_true_eq] at h
  have h1 : IntKind.i64.min = -9223372036854775808 := by decide
  have h2 : IntKind.i64.max = 9223372036854775807 := by decide
  omega
theorem b_u32 {x : Int} (h : (Lit.int .u32 x).wf = true) : 0 ≤ x ∧ x < 4294967296 := by
  simp only [Lit.wf, Bool.and_eq_true, decide_eq_true_eq] at h
  have h1 : IntKind.u32.min = 0 := by decide
  have h2 : IntKind.u32.max = 4294967295 := by decide
  omega
theorem b_tmod {x y : Int} (h : 0 ≤ x) : Int.tmod x y = x % y := Int.tmod_eq_emod_of_nonneg h
theorem b_tdiv {x y : Int} (h : 0 ≤ x) : Int.tdiv x y = x / y := Int.tdiv_eq_ediv_of_nonneg h
theorem b_ev_eq {α : Type} {g : Nat → Option α} {r r' : α} (h : Ev g r) (e : r = r') : Ev g r' := e ▸ h
theorem b_two {α β : Type} {g : Nat → Option α} {f : Nat → Option β} {a : α} {b : β} (h : Ev g a) (h' : Ev f b) : ∃ k, g k = some a ∧ f k = some b := by
  obtain ⟨K, h⟩ := h
  obtain ⟨K', h'⟩ := h'
  exact ⟨max K K', h _ (by omega), h' _ (by omega)⟩
theorem b_list_take_succ {α : Type} (l : List α) (i : Nat) (h : i < l.length) : l.take (i + 1) = l.take i ++ [l[i]] := by
  rw [List.take_succ_eq_append_getElem h]

def varL : Nat → Nat → List Int
  | 0, n => [(n : Int)]
  | d + 1, n => if 127 < n then ((128 + n % 128 : Nat) : Int) :: varL d (n / 128) else [(n : Int)]
theorem varL_length : ∀ (d n : Nat), (varL d n).length ≤ d + 1
  | 0, n => by simp [varL]
  | d + 1, n => by
    rw [varL]
    split
    · have := varL_length d (n / 128); simp; omega
    · simp

theorem spec_l01Var_l0 : ∀ (d n : Nat) (acc : List Int), n < 128 ^ (d + 1) → n < 9223372036854775808 → acc.length + d < 140737488355328 →
    Ev (fun k => spec_l01Var.l0 k (n : Int) acc) (strOfNums (acc ++ varL d n))
  | 0, n, acc, h, hn, hl => by
    refine Ev.step (fun k => ?_) (Ev.now _)
    simp only [spec_l01Var.l0]
    rw [if_neg (by omega), if_pos (by omega), show (n : Int) % 256 = n by omega]; rfl
  | d + 1, n, acc, h, hn, hl => by
    by_cases hc : 127 < n
    · have hd : n / 128 < 128 ^ (d + 1) := by
        rw [Nat.div_lt_iff_lt_mul (by decide), ← Nat.pow_succ]; exact h
      have ih := spec_l01Var_l0 d (n / 128) (acc ++ [((128 + n % 128 : Nat) : Int)]) hd (by omega) (by simp; omega)
      rw [List.append_assoc, List.singleton_append] at ih
      refine b_ev_eq (Ev.step (fun k => ?_) ih) (by rw [varL, if_pos hc])
      simp only [spec_l01Var.l0]
      rw [if_pos (by omega), if_pos (by omega), b_tdiv (by omega), b_tmod (by omega), show wrap64 ((n : Int) / 128) = ((n / 128 : Nat) : Int) by unfold wrap64; omega,
        show (wrap64 ((n : Int) % 128 + 128)) % 256 = ((128 + n % 128 : Nat) : Int) by unfold wrap64; omega]
    · refine b_ev_eq (Ev.step (fun k => ?_) (Ev.now _)) (by rw [varL, if_neg hc])
      simp only [spec_l01Var.l0]
      rw [if_neg (by omega), if_pos (by omega), show (n : Int) % 256 = n by omega]
theorem spec_l01Var_ev (n : Nat) (hn : n < 9223372036854775808) : Ev (fun k => spec_l01Var.f k (n : Int)) (strOfNums (varL 9 n)) :=
  spec_l01Var_l0 9 n [] (by omega) hn (by simp)

theorem impl_varText_l0 : ∀ (d n : Nat) (acc : List Int), n < 128 ^ (d + 1) → n < 9223372036854775808 → acc.length + d < 140737488355328 →
    Ev (fun k => impl_varText.l0 k (n : Int) acc) (strOfNums (acc ++ varL d n))
  | 0, n, acc, h, hn, hl => by
    refine Ev.step (fun k => ?_) (Ev.now _)
    simp only [impl_varText.l0]
    rw [if_neg (by omega), if_pos (by omega), show (n : Int) % 256 = n by omega]; rfl
  | d + 1, n, acc, h, hn, hl => by
    by_cases hc : 127 < n
    · have hd : n / 128 < 128 ^ (d + 1) := by
        rw [Nat.div_lt_iff_lt_mul (by decide), ← Nat.pow_succ]; exact h
      have ih := impl_varText_l0 d (n / 128) (acc ++ [((128 + n % 128 : Nat) : Int)]) hd (by omega) (by simp; omega)
      rw [List.append_assoc, List.singleton_append] at ih
      refine b_ev_eq (Ev.step (fun k => ?_) ih) (by rw [varL, if_pos hc])
      simp only [impl_varText.l0]
      rw [if_pos (by omega), if_pos (by omega), b_tdiv (by omega), b_tmod (by omega), show wrap64 ((n : Int) / 128) = ((n / 128 : Nat) : Int) by unfold wrap64; omega,
        show (wrap64 (128 + (n : Int) % 128)) % 256 = ((128 + n % 128 : Nat) : Int) by unfold wrap64; omega]
    · refine b_ev_eq (Ev.step (fun k => ?_) (Ev.now _)) (by rw [varL, if_neg hc])
      simp only [impl_varText.l0]
      rw [if_neg (by omega), if_pos (by omega), show (n : Int) % 256 = n by omega]
theorem impl_varText_ev (n : Nat) (hn : n < 9223372036854775808) : Ev (fun k => impl_varText.f k (n : Int)) (strOfNums (varL 9 n)) :=
  impl_varText_l0 9 n [] (by omega) hn (by simp)

theorem FnExactVarText : laws_FnExactVarText.Pure := by
  intro a0 h0
  by_cases h : 0 ≤ a0 ∧ a0 ≤ 1000000000
  · obtain ⟨n, rfl⟩ := Int.eq_ofNat_of_zero_le h.1
    obtain ⟨k, e1, e2⟩ := b_two (spec_l01Var_ev n (by omega)) (impl_varText_ev n (by omega))
    refine ⟨k, ?_⟩
    simp only [laws_FnExactVarText.f, spec_VarText.f, impl_VarText.f, spec_l01In.f, impl_in.f]
    rw [if_pos (by omega)]
    simp only [Option.bind_some]
    rw [if_pos (by simp; omega), e1]
    simp only [Option.bind_some]
    rw [if_pos (by simp; omega), e2]
    simp
  · refine ⟨0, ?_⟩
    simp only [laws_FnExactVarText.f, spec_VarText.f, impl_VarText.f, spec_l01In.f, impl_in.f]
    by_cases c : a0 ≥ 0
    · rw [if_pos c]; simp only [Option.bind_some]; rw [if_neg (by simp; omega)]; simp only [Option.bind_some]; rw [if_neg (by simp; omega)]; simp
    · rw [if_neg c]; simp
end Go.Proofs.Ytnjnknmdipjmdaa.Pure
