/- The program's Unhex returns what the reference's returns, for every text. No condition beside what the statement itself asks. -/
import Derived.Test.YtnjnknmdipjmdaaPFnExactUnhexx1
set_option linter.unusedVariables false
set_option linter.unusedSimpArgs false
namespace Go.Proofs.Ytnjnknmdipjmdaa.Pure
open Go.RowKit Go.Proofs.Ytnjnknmdipjmdaa.PFnExactUnhex Go.Proofs.YtnjnknmdipjmdaaW.PrintWords Go.Proofs.YtnjnknmdipjmdaaW.PrintLast

theorem b_w64 {x : Int} (h0 : -9223372036854775808 ≤ x) (h1 : x ≤ 9223372036854775807) : wrap64 x = x := by unfold wrap64; omega
theorem b_i64 {x : Int} (h : (Lit.int .i64 x).wf = true) : -9223372036854775808 ≤ x ∧ x ≤ 9223372036854775807 := by
  simp only [Lit.wf, Bool.and_eq_true, decide_eq_true_eq] at h
  have h1 : IntKind.i64.min = -9223372036854775808 := by decide
  have h2 : IntKind.i64.max = 9223372036854775807 := by decide
  omega
theorem b_u32 {x : Int} (h : (Lit.int .u32 x).wf = true) : 0 ≤ x ∧ x < 4294967296 := by
  simp only [Lit.wf, Bool.and_eq_true, decide_eq_true_eq] at h
  have h1 : IntKind.u32.min = 0 := by decide
  have h2 : IntKind.u32.max = 4294967295 := by decide
  omega
theorem b_tmod {x y : Int} (h : 0 ≤ x) : Int.tmod x y = x % y := Int.tmod_eq_emod_of_nonneg h
theorem b_tdiv {x y : Int} (h : 0 ≤ x) : Int.tdiv x y = x / y := Int.tdiv_eq_ediv_of_nonneg h
theorem b_ev_eq {α : Type} {g : Nat → Option α} {r r' : α} (h : Ev g r) (e : r = r') : Ev g r' := e ▸ h
theorem b_two {α β : Type} {g : Nat → Option α} {f : Nat → Option β} {a : α} {b : β} (h : Ev g a) (h' : Ev f b) : ∃ k, g k = some a ∧ f k = some b := by
  obtain ⟨K, h⟩ := h
  obtain ⟨K', h'⟩ := h'
  exact ⟨max K K', h _ (by omega), h' _ (by omega)⟩
theorem b_list_take_succ {α : Type} (l : List α) (i : Nat) (h : i < l.length) : l.take (i + 1) = l.take i ++ [l[i]] := by
  rw [List.take_succ_eq_append_getElem h]
theorem ev_a0 {α : Type} {F : Nat → Option α} {r : α} (H : ∀ k, F k = some r) : Ev F r := ⟨0, fun k _ => H k⟩
theorem ev_s0 {α : Type} {F : Nat → Option α} {r : α} (H : ∀ k, F (k + 1) = some r) : Ev F r := by
  refine ⟨1, fun k hk => ?_⟩
  obtain ⟨m, rfl⟩ : ∃ m, k = m + 1 := ⟨k - 1, by omega⟩
  exact H m
theorem ev_a1 {α β : Type} {F : Nat → Option α} {r : α} {g : Nat → Option β} {a : β} (ha : Ev g a) (H : ∀ k, g k = some a → F k = some r) : Ev F r := by
  obtain ⟨K, ha⟩ := ha
  exact ⟨K, fun k hk => H k (ha k hk)⟩
theorem ev_s1 {α β : Type} {F : Nat → Option α} {r : α} {g : Nat → Option β} {a : β} (ha : Ev g a) (H : ∀ k, g k = some a → F (k + 1) = some r) : Ev F r := by
  obtain ⟨K, ha⟩ := ha
  refine ⟨K + 1, fun k hk => ?_⟩
  obtain ⟨m, rfl⟩ : ∃ m, k = m + 1 := ⟨k - 1, by omega⟩
  exact H m (ha m (by omega))
theorem ev_and {α β : Type} {g : Nat → Option α} {f : Nat → Option β} {a : α} {b : β} (ha : Ev g a) (hb : Ev f b) : ∃ K, ∀ k, K ≤ k → g k = some a ∧ f k = some b := by
  obtain ⟨K, ha⟩ := ha
  obtain ⟨K', hb⟩ := hb
  exact ⟨max K K', fun k hk => ⟨ha k (by omega), hb k (by omega)⟩⟩
theorem ev_a2 {α β γ : Type} {F : Nat → Option α} {r : α} {g : Nat → Option β} {a : β} {f : Nat → Option γ} {b : γ} (ha : Ev g a) (hb : Ev f b) (H : ∀ k, g k = some a → f k = some b → F k = some r) : Ev F r := by
  obtain ⟨K, h⟩ := ev_and ha hb
  exact ⟨K, fun k hk => H k (h k hk).1 (h k hk).2⟩
theorem ev_s2 {α β γ : Type} {F : Nat → Option α} {r : α} {g : Nat → Option β} {a : β} {f : Nat → Option γ} {b : γ} (ha : Ev g a) (hb : Ev f b) (H : ∀ k, g k = some a → f k = some b → F (k + 1) = some r) : Ev F r := by
  obtain ⟨K, h⟩ := ev_and ha hb
  refine ⟨K + 1, fun k hk => ?_⟩
  obtain ⟨m, rfl⟩ : ∃ m, k = m + 1 := ⟨k - 1, by omega⟩
  exact H m (h m (by omega)).1 (h m (by omega)).2
theorem ev_a3 {α β γ δ : Type} {F : Nat → Option α} {r : α} {g : Nat → Option β} {a : β} {f : Nat → Option γ} {b : γ} {e : Nat → Option δ} {c : δ} (ha : Ev g a) (hb : Ev f b) (hc : Ev e c) (H : ∀ k, g k = some a → f k = some b → e k = some c → F k = some r) : Ev F r := by
  obtain ⟨K, h⟩ := ev_and ha hb
  obtain ⟨K', h'⟩ := hc
  exact ⟨max K K', fun k hk => H k (h k (by omega)).1 (h k (by omega)).2 (h' k (by omega))⟩
theorem ev_s3 {α β γ δ : Type} {F : Nat → Option α} {r : α} {g : Nat → Option β} {a : β} {f : Nat → Option γ} {b : γ} {e : Nat → Option δ} {c : δ} (ha : Ev g a) (hb : Ev f b) (hc : Ev e c) (H : ∀ k, g k = some a → f k = some b → e k = some c → F (k + 1) = some r) : Ev F r := by
  obtain ⟨K, h⟩ := ev_and ha hb
  obtain ⟨K', h'⟩ := hc
  refine ⟨max K K' + 1, fun k hk => ?_⟩
  obtain ⟨m, rfl⟩ : ∃ m, k = m + 1 := ⟨k - 1, by omega⟩
  exact H m (h m (by omega)).1 (h m (by omega)).2 (h' m (by omega))

def hexV (x : Int) : Int := if 48 ≤ x ∧ x ≤ 57 then x - 48 else if 97 ≤ x ∧ x ≤ 102 then x - 87 else -1
def unhexFrom (s : ByteArray) : Nat → Nat → List Int → ByteArray × Bool
  | 0, _, acc => (strOfNums acc, true)
  | d + 1, i, acc => if hexV (bt s i) < 0 ∨ hexV (bt s (i + 1 : Nat)) < 0 then ((⟨#[]⟩ : ByteArray), false) else unhexFrom s d (i + 2) (acc ++ [16 * hexV (bt s i) + hexV (bt s (i + 1 : Nat))])
theorem hexV_range (x : Int) : -1 ≤ hexV x ∧ hexV x ≤ 15 := by
  unfold hexV
  split
  · omega
  · split <;> omega
theorem spec_l01Value_ev (x : Int) (h0 : 0 ≤ x) (h1 : x ≤ 255) : Ev (fun k => spec_l01Value.f k x) (hexV x) := by
  refine Ev.step (f := fun _ => some (hexV x)) (fun k => ?_) (Ev.now _)
  simp only [spec_l01Value.f, spec_l01Value.j0]
  unfold hexV
  by_cases a : x ≥ 48
  · rw [if_pos a]
    by_cases b : x ≤ 57
    · rw [if_pos (by simpa using b), if_pos ⟨a, b⟩]; congr 1; unfold wrap64; omega
    · rw [if_neg (by simpa using b), if_neg (show ¬(48 ≤ x ∧ x ≤ 57) by omega)]
      by_cases c : x ≥ 97
      · rw [if_pos c]
        by_cases e : x ≤ 102
        · rw [if_pos e, if_pos ⟨c, e⟩]; congr 1; unfold wrap64; omega
        · rw [if_neg e, if_neg (show ¬(97 ≤ x ∧ x ≤ 102) by omega)]
      · rw [if_neg c, if_neg (show ¬(97 ≤ x ∧ x ≤ 102) by omega)]
  · rw [if_neg a, if_neg (by simp), if_neg (by omega), if_neg (by omega), if_neg (by omega)]
theorem impl_hexDigit_ev (x : Int) (h0 : 0 ≤ x) (h1 : x ≤ 255) : Ev (fun k => impl_hexDigit.f k x) (hexV x) := by
  refine Ev.step (f := fun _ => some (hexV x)) (fun k => ?_) (Ev.now _)
  simp only [impl_hexDigit.f, impl_hexDigit.j0]
  unfold hexV
  by_cases a : x ≥ 48
  · rw [if_pos a]
    by_cases b : x ≤ 57
    · rw [if_pos (by simpa using b), if_pos ⟨a, b⟩]; congr 1; omega
    · rw [if_neg (by simpa using b), if_neg (show ¬(48 ≤ x ∧ x ≤ 57) by omega)]
      by_cases c : x ≥ 97
      · rw [if_pos c]
        by_cases e : x ≤ 102
        · rw [if_pos e, if_pos ⟨c, e⟩]; congr 1; omega
        · rw [if_neg e, if_neg (show ¬(97 ≤ x ∧ x ≤ 102) by omega)]
      · rw [if_neg c, if_neg (show ¬(97 ≤ x ∧ x ≤ 102) by omega)]
  · rw [if_neg a, if_neg (by simp), if_neg (by omega), if_neg (by omega), if_neg (by omega)]
theorem spec_Unhex_l0 (s : ByteArray) : ∀ (d i : Nat) (acc : List Int), i + 2 * d = s.size → s.size ≤ 40000 → acc.length ≤ i →
    Ev (fun k => spec_Unhex.l0 k s acc (i : Int)) (unhexFrom s d i acc)
  | 0, i, acc, hi, hs, hl => Ev.step (fun k => by simp only [spec_Unhex.l0]; rw [if_neg (by omega)]; rfl) (Ev.now _)
  | d + 1, i, acc, hi, hs, hl => by
    have ha := spec_l01Value_ev (bt s i) (bt_range s i).1 (bt_range s i).2
    have hb := spec_l01Value_ev (bt s (i + 1 : Nat)) (bt_range s _).1 (bt_range s _).2
    have ra := hexV_range (bt s i)
    have rb := hexV_range (bt s (i + 1 : Nat))
    have e1 : wrap64 ((i : Int) + 1) = ((i + 1 : Nat) : Int) := by unfold wrap64; omega
    have e2 : wrap64 ((i : Int) + 2) = ((i + 2 : Nat) : Int) := by unfold wrap64; omega
    rw [unhexFrom]
    by_cases ca : hexV (bt s i) < 0
    · rw [if_pos (.inl ca)]
      refine ev_s2 ha hb (fun k ea eb => ?_)
      simp only [spec_Unhex.l0]
      rw [if_pos (by omega), if_pos (by omega), ea, e1, Option.bind_some, if_pos (by omega), if_pos (by omega), eb]
      simp only [Option.bind_some]
      rw [if_pos ca]
    · by_cases cb : hexV (bt s (i + 1 : Nat)) < 0
      · rw [if_pos (.inr cb)]
        refine ev_s2 ha hb (fun k ea eb => ?_)
        simp only [spec_Unhex.l0]
        rw [if_pos (by omega), if_pos (by omega), ea, e1, Option.bind_some, if_pos (by omega), if_pos (by omega), eb]
        simp only [Option.bind_some]
        rw [if_neg ca, if_pos cb]
      · rw [if_neg (by omega)]
        have ih := spec_Unhex_l0 s d (i + 2) (acc ++ [16 * hexV (bt s i) + hexV (bt s (i + 1 : Nat))]) (by omega) hs (by simp; omega)
        refine ev_s3 ha hb ih (fun k ea eb ei => ?_)
        simp only [spec_Unhex.l0]
        rw [if_pos (by omega), if_pos (by omega), ea, e1, Option.bind_some, if_pos (by omega), if_pos (by omega), eb]
        simp only [Option.bind_some]
        rw [if_neg ca, if_neg cb, if_pos (by omega), e2, show (wrap64 (wrap64 (16 * hexV (bt s i)) + hexV (bt s (i + 1 : Nat)))) % 256 = 16 * hexV (bt s i) + hexV (bt s (i + 1 : Nat)) by unfold wrap64; omega]
        exact ei
theorem impl_Unhex_l0 (s : ByteArray) : ∀ (d i : Nat) (acc : List Int), i + 2 * d = s.size → s.size ≤ 40000 → acc.length ≤ i →
    Ev (fun k => impl_Unhex.l0 k s acc (i : Int)) (unhexFrom s d i acc)
  | 0, i, acc, hi, hs, hl => Ev.step (fun k => by simp only [impl_Unhex.l0]; rw [if_neg (by omega)]; rfl) (Ev.now _)
  | d + 1, i, acc, hi, hs, hl => by
    have ha := impl_hexDigit_ev (bt s i) (bt_range s i).1 (bt_range s i).2
    have hb := impl_hexDigit_ev (bt s (i + 1 : Nat)) (bt_range s _).1 (bt_range s _).2
    have ra := hexV_range (bt s i)
    have rb := hexV_range (bt s (i + 1 : Nat))
    have e1 : wrap64 ((i : Int) + 1) = ((i + 1 : Nat) : Int) := by unfold wrap64; omega
    have e2 : wrap64 ((i : Int) + 2) = ((i + 2 : Nat) : Int) := by unfold wrap64; omega
    rw [unhexFrom]
    by_cases ca : hexV (bt s i) < 0
    · rw [if_pos (.inl ca)]
      refine ev_s2 ha hb (fun k ea eb => ?_)
      simp only [impl_Unhex.l0]
      rw [if_pos (by omega), if_pos (by omega), ea, e1, Option.bind_some, if_pos (by omega), if_pos (by omega), eb]
      simp only [Option.bind_some]
      rw [if_pos ca]
    · by_cases cb : hexV (bt s (i + 1 : Nat)) < 0
      · rw [if_pos (.inr cb)]
        refine ev_s2 ha hb (fun k ea eb => ?_)
        simp only [impl_Unhex.l0]
        rw [if_pos (by omega), if_pos (by omega), ea, e1, Option.bind_some, if_pos (by omega), if_pos (by omega), eb]
        simp only [Option.bind_some]
        rw [if_neg ca, if_pos cb]
      · rw [if_neg (by omega)]
        have ih := impl_Unhex_l0 s d (i + 2) (acc ++ [16 * hexV (bt s i) + hexV (bt s (i + 1 : Nat))]) (by omega) hs (by simp; omega)
        refine ev_s3 ha hb ih (fun k ea eb ei => ?_)
        simp only [impl_Unhex.l0]
        rw [if_pos (by omega), if_pos (by omega), ea, e1, Option.bind_some, if_pos (by omega), if_pos (by omega), eb]
        simp only [Option.bind_some]
        rw [if_neg ca, if_neg cb, if_pos (by omega), e2, show (wrap64 (wrap64 (16 * hexV (bt s i)) + hexV (bt s (i + 1 : Nat)))) % 256 = 16 * hexV (bt s i) + hexV (bt s (i + 1 : Nat)) by unfold wrap64; omega]
        exact ei
def unhexR (s : ByteArray) : ByteArray × Bool := if s.size > 40000 ∨ s.size % 2 = 1 then ((⟨#[]⟩ : ByteArray), false) else unhexFrom s (s.size / 2) 0 []
theorem spec_Unhex_ev (s : ByteArray) : Ev (fun k => spec_Unhex.f k s) (unhexR s) := by
  unfold unhexR
  by_cases h : s.size > 40000
  · rw [if_pos (.inl h)]
    refine ev_s0 (fun k => ?_)
    simp only [spec_Unhex.f, spec_Unhex.j0]; rw [if_pos (by omega), if_pos trivial]
  · by_cases h2 : s.size % 2 = 1
    · rw [if_pos (.inr h2)]
      refine ev_s0 (fun k => ?_)
      simp only [spec_Unhex.f, spec_Unhex.j0]; rw [if_neg (by omega), if_pos (by simp; omega)]
    · rw [if_neg (by omega)]
      refine ev_s1 (spec_Unhex_l0 s (s.size / 2) 0 [] (by omega) (by omega) (by simp)) (fun k e => ?_)
      simp only [spec_Unhex.f, spec_Unhex.j0]; rw [if_neg (by omega), if_neg (by simp; omega)]; exact e
theorem impl_Unhex_ev (s : ByteArray) : Ev (fun k => impl_Unhex.f k s) (unhexR s) := by
  unfold unhexR
  by_cases h2 : s.size % 2 = 1
  · rw [if_pos (.inr h2)]
    refine ev_s0 (fun k => ?_)
    simp only [impl_Unhex.f, impl_Unhex.j0]; rw [if_neg (by omega), if_pos trivial]
  · by_cases h : s.size > 40000
    · rw [if_pos (.inl h)]
      refine ev_s0 (fun k => ?_)
      simp only [impl_Unhex.f, impl_Unhex.j0]; rw [if_pos (by omega), if_pos (by simp; omega)]
    · rw [if_neg (by omega)]
      refine ev_s1 (impl_Unhex_l0 s (s.size / 2) 0 [] (by omega) (by omega) (by simp)) (fun k e => ?_)
      simp only [impl_Unhex.f, impl_Unhex.j0]; rw [if_pos (by omega), if_neg (by simp; omega)]; exact e

theorem FnExactUnhex : laws_FnExactUnhex.Pure := by
  intro a0 hs
  obtain ⟨k, e1, e2⟩ := b_two (spec_Unhex_ev a0) (impl_Unhex_ev a0)
  refine ⟨k, ?_⟩
  simp only [laws_FnExactUnhex.f]
  split
  · rfl
  · rw [e1]; simp only [Option.bind_some]; rw [e2]; simp
end Go.Proofs.Ytnjnknmdipjmdaa.Pure
