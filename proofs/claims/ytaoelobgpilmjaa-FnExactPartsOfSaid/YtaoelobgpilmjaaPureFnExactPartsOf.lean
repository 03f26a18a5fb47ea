/- The program's PartsOf returns what the reference's returns, for every line, and its answers are new memory. No condition beside what the statement itself asks. -/
import Derived.Test.YtaoelobgpilmjaaPFnExactPartsOfx3
set_option linter.unusedVariables false
set_option linter.unusedSimpArgs false
namespace Go.Proofs.Ytaoelobgpilmjaa.Pure
open Go.RowKit Go.Proofs.Ytaoelobgpilmjaa.PFnExactPartsOf Go.Proofs.YtaoelobgpilmjaaW.PrintWords Go.Proofs.YtaoelobgpilmjaaW.PrintLast

theorem b_w64 {x : Int} (h0 : -9223372036854775808 ≤ x) (h1 : x ≤ 9223372036854775807) : wrap64 x = x := by unfold wrap64; omega
theorem b_i64 {x : Int} (h : (Lit.int .i64 x).wf = true) : -9223372036854775808 ≤ x ∧ x ≤ 9223372036854775807 := by
  simp only [Lit.wf, Bool.and_eq_true, decide_eq_true_eq] at h
  have h1 : IntKind.i64.min = -9223372036854775808 := by decide
  have h2 : IntKind.i64.max = 9223372036854775807 := by decide
  omega
theorem b_u32 {x : Int} (h : (Lit.int .u32 x).wf = true) : 0 ≤ x ∧ x < 4294967296 := by
  simp only [Lit.wf, Bool.and_eq_true, decide_eq_true_eq] at h
  have h1 : IntKind.u32.min = 0 := by decide
  have h2 : IntKind.u32.max = 4294967295 := by decide
  omega
theorem b_tmod {x y : Int} (h : 0 ≤ x) : Int.tmod x y = x % y := Int.tmod_eq_emod_of_nonneg h
theorem b_tdiv {x y : Int} (h : 0 ≤ x) : Int.tdiv x y = x / y := Int.tdiv_eq_ediv_of_nonneg h
theorem b_ev_eq {α : Type} {g : Nat → Option α} {r r' : α} (h : Ev g r) (e : r = r') : Ev g r' := e ▸ h
theorem b_two {α β : Type} {g : Nat → Option α} {f : Nat → Option β} {a : α} {b : β} (h : Ev g a) (h' : Ev f b) : ∃ k, g k = some a ∧ f k = some b := by
  obtain ⟨K, h⟩ := h
  obtain ⟨K', h'⟩ := h'
  exact ⟨max K K', h _ (by omega), h' _ (by omega)⟩
theorem b_list_take_succ {α : Type} (l : List α) (i : Nat) (h : i < l.length) : l.take (i + 1) = l.take i ++ [l[i]] := by
  rw [List.take_succ_eq_append_getElem h]
theorem ev_a0 {α : Type} {F : Nat → Option α} {r : α} (H : ∀ k, F k = some r) : Ev F r := ⟨0, fun k _ => H k⟩
theorem ev_s0 {α : Type} {F : Nat → Option α} {r : α} (H : ∀ k, F (k + 1) = some r) : Ev F r := by
  refine ⟨1, fun k hk => ?_⟩
  obtain ⟨m, rfl⟩ : ∃ m, k = m + 1 := ⟨k - 1, by omega⟩
  exact H m
theorem ev_a1 {α β : Type} {F : Nat → Option α} {r : α} {g : Nat → Option β} {a : β} (ha : Ev g a) (H : ∀ k, g k = some a → F k = some r) : Ev F r := by
  obtain ⟨K, ha⟩ := ha
  exact ⟨K, fun k hk => H k (ha k hk)⟩
theorem ev_s1 {α β : Type} {F : Nat → Option α} {r : α} {g : Nat → Option β} {a : β} (ha : Ev g a) (H : ∀ k, g k = some a → F (k + 1) = some r) : Ev F r := by
  obtain ⟨K, ha⟩ := ha
  refine ⟨K + 1, fun k hk => ?_⟩
  obtain ⟨m, rfl⟩ : ∃ m, k = m + 1 := ⟨k - 1, by omega⟩
  exact H m (ha m (by omega))
theorem ev_and {α β : Type} {g : Nat → Option α} {f : Nat → Option β} {a : α} {b : β} (ha : Ev g a) (hb : Ev f b) : ∃ K, ∀ k, K ≤ k → g k = some a ∧ f k = some b := by
  obtain ⟨K, ha⟩ := ha
  obtain ⟨K', hb⟩ := hb
  exact ⟨max K K', fun k hk => ⟨ha k (by omega), hb k (by omega)⟩⟩
theorem ev_a2 {α β γ : Type} {F : Nat → Option α} {r : α} {g : Nat → Option β} {a : β} {f : Nat → Option γ} {b : γ} (ha : Ev g a) (hb : Ev f b) (H : ∀ k, g k = some a → f k = some b → F k = some r) : Ev F r := by
  obtain ⟨K, h⟩ := ev_and ha hb
  exact ⟨K, fun k hk => H k (h k hk).1 (h k hk).2⟩
theorem ev_s2 {α β γ : Type} {F : Nat → Option α} {r : α} {g : Nat → Option β} {a : β} {f : Nat → Option γ} {b : γ} (ha : Ev g a) (hb : Ev f b) (H : ∀ k, g k = some a → f k = some b → F (k + 1) = some r) : Ev F r := by
  obtain ⟨K, h⟩ := ev_and ha hb
  refine ⟨K + 1, fun k hk => ?_⟩
  obtain ⟨m, rfl⟩ : ∃ m, k = m + 1 := ⟨k - 1, by omega⟩
  exact H m (h m (by omega)).1 (h m (by omega)).2
theorem ev_a3 {α β γ δ : Type} {F : Nat → Option α} {r : α} {g : Nat → Option β} {a : β} {f : Nat → Option γ} {b : γ} {e : Nat → Option δ} {c : δ} (ha : Ev g a) (hb : Ev f b) (hc : Ev e c) (H : ∀ k, g k = some a → f k = some b → e k = some c → F k = some r) : Ev F r := by
  obtain ⟨K, h⟩ := ev_and ha hb
  obtain ⟨K', h'⟩ := hc
  exact ⟨max K K', fun k hk => H k (h k (by omega)).1 (h k (by omega)).2 (h' k (by omega))⟩
theorem ev_s3 {α β γ δ : Type} {F : Nat → Option α} {r : α} {g : Nat → Option β} {a : β} {f : Nat → Option γ} {b : γ} {e : Nat → Option δ} {c : δ} (ha : Ev g a) (hb : Ev f b) (hc : Ev e c) (H : ∀ k, g k = some a → f k = some b → e k = some c → F (k + 1) = some r) : Ev F r := by
  obtain ⟨K, h⟩ := ev_and ha hb
  obtain ⟨K', h'⟩ := hc
  refine ⟨max K K' + 1, fun k hk => ?_⟩
  obtain ⟨m, rfl⟩ : ∃ m, k = m + 1 := ⟨k - 1, by omega⟩
  exact H m (h m (by omega)).1 (h m (by omega)).2 (h' m (by omega))
def evp {α β : Type} (x : Option α) (y : Option β) : Option (α × β) := x.bind fun a => y.bind fun b => some (a, b)
theorem ev_pair {α β : Type} {g : Nat → Option α} {f : Nat → Option β} {a : α} {b : β} (ha : Ev g a) (hb : Ev f b) : Ev (fun k => evp (g k) (f k)) (a, b) :=
  ev_a2 ha hb (fun k e e2 => by simp [evp, e, e2])
theorem ev_pair_l {α β : Type} {x : Option α} {y : Option β} {a : α} {b : β} (h : evp x y = some (a, b)) : x = some a := by
  unfold evp at h
  cases x with
  | none => simp at h
  | some x => cases y with
    | none => simp at h
    | some y => simp at h; simp [h.1]
theorem ev_pair_r {α β : Type} {x : Option α} {y : Option β} {a : α} {b : β} (h : evp x y = some (a, b)) : y = some b := by
  unfold evp at h
  cases x with
  | none => simp at h
  | some x => cases y with
    | none => simp at h
    | some y => simp at h; simp [h.2]

def partsM (s : ByteArray) : Nat → Nat → Nat → List ByteArray → List ByteArray × Bool
  | 0, _, _, acc => if acc.length > 10 then ([], false) else (acc, true)
  | d + 1, i, b, acc =>
    if i < s.size ∧ (bt s (i : Int) < 32 ∨ bt s (i : Int) > 126) then ([], false)
    else if i < s.size ∧ bt s (i : Int) ≠ 32 then partsM s d (i + 1) b acc
    else partsM s d (i + 1) (i + 1) (if b < i then acc ++ [s.extract b i] else acc)
theorem spec_PartsOf_l0 (s : ByteArray) (hs : s.size ≤ 600) : ∀ (d i b : Nat) (acc : List ByteArray), i + d = s.size + 1 → b ≤ i → acc.length ≤ i →
    Ev (fun k => spec_PartsOf.l0 k s acc (b : Int) (i : Int)) (partsM s d i b acc)
  | 0, i, b, acc, hi, hb, hl => by
    refine ev_s0 (fun k => ?_)
    simp only [spec_PartsOf.l0, partsM]
    rw [if_neg (by omega)]
    by_cases c : acc.length > 10
    · rw [if_pos (by omega), if_pos c]
    · rw [if_neg (by omega), if_neg c]
  | d + 1, i, b, acc, hi, hb, hl => by
    have hr := bt_range s (i : Int)
    have q0 : ((i : Nat) : Int) ≤ (s.size : Int) := by omega
    have q1 : (0 : Int) ≤ (i : Int) := by omega
    have q2 : acc.length < 8796093022208 := by omega
    have q3 : (0 : Int) ≤ (b : Int) := by omega
    have q4 : (b : Int) ≤ (i : Int) := by omega
    have e1 : wrap64 ((i : Int) + 1) = ((i + 1 : Nat) : Int) := by unfold wrap64; omega
    have j2t : ∀ r, Ev (fun k => spec_PartsOf.l0 k s acc (b : Int) ((i + 1 : Nat) : Int)) r → Ev (fun k => spec_PartsOf.j2 k s acc (b : Int) (i : Int) true) r := fun r h =>
      ev_s1 h (fun k e => by simp only [spec_PartsOf.j2, if_true]; rw [e1]; exact e)
    have j2f : ∀ r, Ev (fun k => spec_PartsOf.l0 k s (if b < i then acc ++ [s.extract b i] else acc) ((i + 1 : Nat) : Int) ((i + 1 : Nat) : Int)) r → Ev (fun k => spec_PartsOf.j2 k s acc (b : Int) (i : Int) false) r := fun r h =>
      ev_s1 h (fun k e => by
        simp only [spec_PartsOf.j2]
        rw [if_neg (by simp)]
        by_cases c : b < i
        · rw [if_pos c] at e
          rw [if_pos (show (b : Int) < (i : Int) by omega), if_pos q3, if_pos q4, if_pos q0, if_pos q2, e1, Int.toNat_natCast, Int.toNat_natCast]; exact e
        · rw [if_neg c] at e
          rw [if_neg (show ¬(b : Int) < (i : Int) by omega), e1]; exact e)
    rw [partsM]
    by_cases c : i < s.size
    · have q5 : (i : Int) < (s.size : Int) := by omega
      by_cases c1 : bt s (i : Int) < 32 ∨ bt s (i : Int) > 126
      · rw [if_pos ⟨c, c1⟩]
        refine ev_s1 (g := fun k => spec_PartsOf.j1 k s acc (b : Int) (i : Int) true) (a := (([] : List ByteArray), false)) (ev_s0 (fun k => by simp only [spec_PartsOf.j1, if_true])) (fun k e => ?_)
        simp only [spec_PartsOf.l0]
        rw [if_pos q0, if_pos q5, if_pos q1]
        by_cases c2 : bt s (i : Int) < 32
        · rw [if_pos c2]; exact e
        · rw [if_neg c2, show decide (bt s (i : Int) > 126) = true by simp; omega]; exact e
      · rw [if_neg (fun h => c1 h.2)]
        have hj1 : ∀ r, Ev (fun k => spec_PartsOf.j2 k s acc (b : Int) (i : Int) (bt s (i : Int) != 32)) r → Ev (fun k => spec_PartsOf.l0 k s acc (b : Int) (i : Int)) r := fun r h => by
          have h1 : Ev (fun k => spec_PartsOf.j1 k s acc (b : Int) (i : Int) false) r := ev_s1 h (fun k e => by
            simp only [spec_PartsOf.j1]; rw [if_neg (by simp), if_pos q5, if_pos q1]; exact e)
          refine ev_s1 h1 (fun k e => ?_)
          simp only [spec_PartsOf.l0]
          rw [if_pos q0, if_pos q5, if_pos q1, if_neg (show ¬bt s (i : Int) < 32 by omega), show decide (bt s (i : Int) > 126) = false by simp; omega]; exact e
        refine hj1 _ ?_
        by_cases c3 : bt s (i : Int) = 32
        · rw [if_neg (fun h => h.2 c3), show (bt s (i : Int) != 32) = false by simp [c3]]
          refine j2f _ (spec_PartsOf_l0 s hs d (i + 1) (i + 1) _ (by omega) (by omega) ?_)
          split
          · simp; omega
          · omega
        · rw [if_pos ⟨c, c3⟩, show (bt s (i : Int) != 32) = true by simp [c3]]
          exact j2t _ (spec_PartsOf_l0 s hs d (i + 1) b acc (by omega) (by omega) (by omega))
    · have q5 : ¬(i : Int) < (s.size : Int) := by omega
      rw [if_neg (fun h => c h.1), if_neg (fun h => c h.1)]
      have h2 := j2f _ (spec_PartsOf_l0 s hs d (i + 1) (i + 1) (if b < i then acc ++ [s.extract b i] else acc) (by omega) (by omega) (by split; simp; omega; omega))
      have h1 : Ev (fun k => spec_PartsOf.j1 k s acc (b : Int) (i : Int) false) (partsM s d (i + 1) (i + 1) (if b < i then acc ++ [s.extract b i] else acc)) := ev_s1 h2 (fun k e => by
        simp only [spec_PartsOf.j1]; rw [if_neg (by simp), if_neg q5]; exact e)
      refine ev_s1 h1 (fun k e => ?_)
      simp only [spec_PartsOf.l0]
      rw [if_pos q0, if_neg q5]; exact e
theorem impl_PartsOf_l0 (s : ByteArray) (hs : s.size ≤ 600) : ∀ (d i b : Nat) (acc : List ByteArray), i + d = s.size + 1 → b ≤ i → acc.length ≤ i →
    Ev (fun k => impl_PartsOf.l0 k s acc (if b < i then (b : Int) else -1) (i : Int)) (partsM s d i b acc)
  | 0, i, b, acc, hi, hb, hl => by
    refine ev_s0 (fun k => ?_)
    simp only [impl_PartsOf.l0, partsM]
    rw [if_neg (show ¬(i : Int) ≤ (s.size : Int) by omega)]
    by_cases c : acc.length > 10
    · rw [if_pos (show (acc.length : Int) > 10 by omega), if_pos c]
    · rw [if_neg (show ¬(acc.length : Int) > 10 by omega), if_neg c]
  | d + 1, i, b, acc, hi, hb, hl => by
    have hr := bt_range s (i : Int)
    have q0 : ((i : Nat) : Int) ≤ (s.size : Int) := by omega
    have q1 : (0 : Int) ≤ (i : Int) := by omega
    have q2 : acc.length < 8796093022208 := by omega
    have q3 : (0 : Int) ≤ (b : Int) := by omega
    have q4 : (b : Int) ≤ (i : Int) := by omega
    have e1 : wrap64 ((i : Int) + 1) = ((i + 1 : Nat) : Int) := by unfold wrap64; omega
    have e2 : wrap64 (bt s (i : Int)) = bt s (i : Int) := by unfold wrap64; omega
    have j1t : ∀ r, Ev (fun k => impl_PartsOf.l0 k s (if b < i then acc ++ [s.extract b i] else acc) (-1) ((i + 1 : Nat) : Int)) r → Ev (fun k => impl_PartsOf.j1 k s acc (if b < i then (b : Int) else -1) (i : Int) true) r := fun r h =>
      ev_s1 h (fun k e => by
        simp only [impl_PartsOf.j1, if_true]
        by_cases c : b < i
        · rw [if_pos c] at e ⊢
          rw [if_pos (show (b : Int) ≥ 0 by omega), if_pos q3, if_pos q4, if_pos q0, if_pos q2, e1, Int.toNat_natCast, Int.toNat_natCast]; exact e
        · rw [if_neg c] at e ⊢
          rw [if_neg (show ¬(-1 : Int) ≥ 0 by omega), e1]; exact e)
    rw [partsM]
    by_cases c : i < s.size
    · have q5 : (i : Int) < (s.size : Int) := by omega
      have q6 : ¬(i : Int) = (s.size : Int) := by omega
      by_cases c3 : bt s (i : Int) = 32
      · rw [if_neg (show ¬(i < s.size ∧ (bt s (i : Int) < 32 ∨ bt s (i : Int) > 126)) from fun h => by omega), if_neg (show ¬(i < s.size ∧ bt s (i : Int) ≠ 32) from fun h => h.2 c3)]
        have ih := impl_PartsOf_l0 s hs d (i + 1) (i + 1) (if b < i then acc ++ [s.extract b i] else acc) (by omega) (by omega) (by split; simp; omega; omega)
        rw [if_neg (show ¬(i + 1 < i + 1) by omega)] at ih
        refine ev_s1 (j1t _ ih) (fun k e => ?_)
        simp only [impl_PartsOf.l0]
        rw [if_pos q0, if_neg q6, if_pos q1, if_pos q5, show (bt s (i : Int) == 32) = true by simp [c3]]; exact e
      · by_cases c1 : bt s (i : Int) < 32 ∨ bt s (i : Int) > 126
        · rw [if_pos (show i < s.size ∧ (bt s (i : Int) < 32 ∨ bt s (i : Int) > 126) from ⟨c, c1⟩)]
          have h1 : Ev (fun k => impl_PartsOf.j1 k s acc (if b < i then (b : Int) else -1) (i : Int) false) (([] : List ByteArray), false) := ev_s0 (fun k => by
            simp only [impl_PartsOf.j1]
            rw [if_neg (show ¬(false = true) by simp), if_pos q1, if_pos q5, e2]
            simp only [impl_in.f]
            by_cases c4 : bt s (i : Int) ≥ 32
            · rw [if_pos c4, Option.bind_some, if_neg (by simp; omega)]
            · rw [if_neg c4, Option.bind_some, if_neg (by simp)])
          refine ev_s1 h1 (fun k e => ?_)
          simp only [impl_PartsOf.l0]
          rw [if_pos q0, if_neg q6, if_pos q1, if_pos q5, show (bt s (i : Int) == 32) = false by simp [c3]]; exact e
        · rw [if_neg (show ¬(i < s.size ∧ (bt s (i : Int) < 32 ∨ bt s (i : Int) > 126)) from fun h => c1 h.2), if_pos (show i < s.size ∧ bt s (i : Int) ≠ 32 from ⟨c, c3⟩)]
          have ih := impl_PartsOf_l0 s hs d (i + 1) b acc (by omega) (by omega) (by omega)
          rw [if_pos (show b < i + 1 by omega)] at ih
          have h1 : Ev (fun k => impl_PartsOf.j1 k s acc (if b < i then (b : Int) else -1) (i : Int) false) (partsM s d (i + 1) b acc) := ev_s1 ih (fun k e => by
            simp only [impl_PartsOf.j1]
            rw [if_neg (show ¬(false = true) by simp), if_pos q1, if_pos q5, e2]
            simp only [impl_in.f]
            rw [if_pos (show bt s (i : Int) ≥ 32 by omega), Option.bind_some, if_pos (by simp; omega), e1]
            by_cases c4 : b < i
            · rw [if_pos c4, if_neg (show ¬(b : Int) < 0 by omega)]; exact e
            · rw [if_neg c4, if_pos (show (-1 : Int) < 0 by omega), show (i : Int) = (b : Int) by omega]; exact e)
          refine ev_s1 h1 (fun k e => ?_)
          simp only [impl_PartsOf.l0]
          rw [if_pos q0, if_neg q6, if_pos q1, if_pos q5, show (bt s (i : Int) == 32) = false by simp [c3]]; exact e
    · rw [if_neg (show ¬(i < s.size ∧ (bt s (i : Int) < 32 ∨ bt s (i : Int) > 126)) from fun h => c h.1), if_neg (show ¬(i < s.size ∧ bt s (i : Int) ≠ 32) from fun h => c h.1)]
      have ih := impl_PartsOf_l0 s hs d (i + 1) (i + 1) (if b < i then acc ++ [s.extract b i] else acc) (by omega) (by omega) (by split; simp; omega; omega)
      rw [if_neg (show ¬(i + 1 < i + 1) by omega)] at ih
      refine ev_s1 (j1t _ ih) (fun k e => ?_)
      simp only [impl_PartsOf.l0]
      rw [if_pos q0, if_pos (show (i : Int) = (s.size : Int) by omega)]; exact e
def partsR (s : ByteArray) : List ByteArray × Bool := if s.size > 600 then ([], false) else partsM s (s.size + 1) 0 0 []
theorem spec_PartsOf_ev (s : ByteArray) : Ev (fun k => spec_PartsOf.f k s) (partsR s) := by
  unfold partsR
  by_cases h : s.size > 600
  · rw [if_pos h]
    exact ev_a0 (fun k => by simp only [spec_PartsOf.f]; rw [Option.bind_some, if_pos (by omega)])
  · rw [if_neg h]
    exact ev_a1 (spec_PartsOf_l0 s (by omega) (s.size + 1) 0 0 [] (by omega) (by omega) (by simp)) (fun k e => by simp only [spec_PartsOf.f]; rw [Option.bind_some, if_neg (by omega)]; exact e)
theorem impl_PartsOf_ev (s : ByteArray) : Ev (fun k => impl_PartsOf.f k s) (partsR s) := by
  unfold partsR
  by_cases h : s.size > 600
  · rw [if_pos h]
    exact ev_a0 (fun k => by simp only [impl_PartsOf.f]; rw [if_pos (by omega)])
  · rw [if_neg h]
    exact ev_a1 (impl_PartsOf_l0 s (by omega) (s.size + 1) 0 0 [] (by omega) (by omega) (by simp)) (fun k e => by simp only [impl_PartsOf.f]; rw [if_neg (by omega)]; exact e)
theorem partsM_length (s : ByteArray) : ∀ (d i b : Nat) (acc : List ByteArray), (partsM s d i b acc).1.length ≤ 10
  | 0, i, b, acc => by
    simp only [partsM]
    split
    · simp
    · simp; omega
  | d + 1, i, b, acc => by
    rw [partsM]
    split
    · simp
    · split
      · exact partsM_length s d _ _ _
      · exact partsM_length s d _ _ _
theorem partsR_length (s : ByteArray) : (partsR s).1.length ≤ 10 := by
  unfold partsR
  split
  · simp
  · exact partsM_length s _ _ _ _

theorem laws_markText_l0 : ∀ (d : Nat) (n : Nat) (s : ByteArray), n < 10 ^ d → n < 9223372036854775808 → s.size + d ≤ 1000 → ∃ r, Ev (fun k => laws_markText.l0 k (n : Int) s) r
  | 0, n, s, h, hb, hs => by
    have : n = 0 := by omega
    subst this
    refine ⟨(⟨#[109]⟩ : ByteArray) ++ s, ev_s0 (fun k => ?_)⟩
    simp only [laws_markText.l0]
    rw [if_neg (by omega), if_pos (by omega)]
  | d + 1, n, s, h, hb, hs => by
    by_cases c : n = 0
    · subst c
      refine ⟨(⟨#[109]⟩ : ByteArray) ++ s, ev_s0 (fun k => ?_)⟩
      simp only [laws_markText.l0]
      rw [if_neg (by omega), if_pos (by omega)]
    · have hd : n / 10 < 10 ^ d := by rw [Nat.div_lt_iff_lt_mul (by decide), ← Nat.pow_succ]; exact h
      obtain ⟨r, hr⟩ := laws_markText_l0 d (n / 10) (strOfNums [((48 + n % 10 : Nat) : Int)] ++ s) hd (by omega) (by rw [ByteArray.size_append, strOfNums_size]; simp; omega)
      refine ⟨r, ev_s1 hr (fun k e => ?_)⟩
      have e1 : wrap64 (48 + Int.tmod (n : Int) 10) % 256 = ((48 + n % 10 : Nat) : Int) := by rw [b_tmod (by omega)]; unfold wrap64; omega
      have e2 : wrap64 (Int.tdiv (n : Int) 10) = ((n / 10 : Nat) : Int) := by rw [b_tdiv (by omega)]; unfold wrap64; omega
      simp only [laws_markText.l0]
      rw [if_pos (by omega), e1, Option.bind_some, if_pos (by rw [strOfNums_size]; simp; omega), e2]
      exact e
theorem laws_markText_tot (n : Int) (h0 : 0 ≤ n) (h1 : n < 9223372036854775808) : ∃ r, Ev (fun k => laws_markText.f k n) r := by
  obtain ⟨m, rfl⟩ := Int.eq_ofNat_of_zero_le h0
  by_cases c : (m : Int) ≤ 0
  · exact ⟨_, ev_a0 (fun k => by simp only [laws_markText.f]; rw [if_pos c])⟩
  · obtain ⟨r, hr⟩ := laws_markText_l0 20 m (⟨#[]⟩ : ByteArray) (by omega) (by omega) (by decide)
    exact ⟨r, ev_a1 hr (fun k e => by simp only [laws_markText.f]; rw [if_neg c]; exact e)⟩
open Classical in
noncomputable def mt (n : Int) : ByteArray := if h : ∃ r, Ev (fun k => laws_markText.f k n) r then h.choose else ByteArray.empty
theorem mt_ev (n : Int) (h0 : 0 ≤ n) (h1 : n < 9223372036854775808) : Ev (fun k => laws_markText.f k n) (mt n) := by
  have h := laws_markText_tot n h0 h1
  unfold mt
  rw [dif_pos h]
  exact h.choose_spec

theorem set_at {α : Type} : ∀ (a : List α) (b : α) (r : List α) (v : α) (i : Nat), a.length = i → (a ++ b :: r).set i v = a ++ v :: r
  | [], b, r, v, i, h => by subst h; rfl
  | x :: a, b, r, v, i, h => by
    subst h
    simp only [List.cons_append, List.length_cons, List.set_cons_succ, set_at a b r v a.length rfl]
theorem copy_step {α β : Type} (f : α → β) (xs : List α) (z : β) (i : Nat) (h : i < xs.length) :
    ((xs.take i).map f ++ List.replicate (xs.length - i) z).set i (f xs[i]) = (xs.take (i + 1)).map f ++ List.replicate (xs.length - (i + 1)) z := by
  rw [show xs.length - i = (xs.length - (i + 1)) + 1 by omega, List.replicate_succ, set_at _ _ _ _ i (by simp; omega), List.take_succ_eq_append_getElem h, List.map_append, List.append_assoc]
  rfl
theorem rd_nat (xs : List Int) (i : Nat) (h : i < xs.length) : rd xs (i : Int) = xs[i] := by
  unfold rd
  rw [Int.toNat_natCast, List.getD_eq_getElem?_getD, List.getElem?_eq_getElem h]; rfl
theorem getD_nat {α : Type} (xs : List α) (z : α) (i : Nat) (h : i < xs.length) : xs.getD ((i : Int)).toNat z = xs[i] := by
  rw [Int.toNat_natCast, List.getD_eq_getElem?_getD, List.getElem?_eq_getElem h]; rfl
theorem w_succ {i : Nat} (h : i < 4611686018427387904) : wrap64 ((i : Int) + 1) = ((i + 1 : Nat) : Int) := by unfold wrap64; omega
theorem drop_eq {α : Type} (a b : List α) (i : Nat) (ha : i < a.length) (hb : i < b.length) : a.drop i = b.drop i ↔ a[i] = b[i] ∧ a.drop (i + 1) = b.drop (i + 1) := by
  rw [List.drop_eq_getElem_cons ha, List.drop_eq_getElem_cons hb, List.cons.injEq]

noncomputable def mtS (m n : Nat) : List ByteArray := (List.range n).map fun j => mt ((m + j : Nat) : Int)
theorem mtS_succ (m n : Nat) : mtS m (n + 1) = mtS m n ++ [mt ((m + n : Nat) : Int)] := by simp [mtS, List.range_succ]
theorem mtS_length (m n : Nat) : (mtS m n).length = n := by simp [mtS]
theorem laws_markStringS_l0 (m : Nat) : ∀ (rest : List ByteArray) (i : Nat), m + i + rest.length < 4611686018427387904 →
    Ev (fun k => laws_markStringS.l0 k (mtS m i ++ rest) ((m + i : Nat) : Int) (i : Int)) (((m + i + rest.length : Nat) : Int), mtS m (i + rest.length))
  | [], i, h => by
    refine ev_s0 (fun k => ?_)
    simp only [laws_markStringS.l0, List.append_nil, mtS_length]
    rw [if_neg (by omega)]; rfl
  | b :: rest, i, h => by
    simp only [List.length_cons] at h
    have ih := laws_markStringS_l0 m rest (i + 1) (by omega)
    have hm := mt_ev ((m + i : Nat) : Int) (by omega) (by omega)
    refine ev_s2 ih hm (fun k e e2 => ?_)
    simp only [laws_markStringS.l0]
    rw [if_pos (by simp [mtS_length]; omega), e2, Option.bind_some, if_pos (by omega)]
    have e3 : (mtS m i ++ b :: rest).set ((i : Int)).toNat (mt ((m + i : Nat) : Int)) = mtS m (i + 1) ++ rest := by
      rw [Int.toNat_natCast, mtS_succ, List.append_assoc, set_at _ _ _ _ i (mtS_length m i)]
      rfl
    rw [e3, show wrap64 (((m + i : Nat) : Int) + 1) = ((m + (i + 1) : Nat) : Int) by unfold wrap64; omega, show wrap64 ((i : Int) + 1) = ((i + 1 : Nat) : Int) by unfold wrap64; omega, e]
    simp only [List.length_cons]
    rw [show m + (i + 1) + rest.length = m + i + (rest.length + 1) by omega, show i + 1 + rest.length = i + (rest.length + 1) by omega]
theorem laws_markStringS_ev (xs : List ByteArray) (m : Nat) (h : m + xs.length < 4611686018427387904) :
    Ev (fun k => laws_markStringS.f k xs (m : Int)) (((m + xs.length : Nat) : Int), mtS m xs.length) := by
  have := laws_markStringS_l0 m xs 0 (by omega)
  simpa [mtS, laws_markStringS.f] using this
theorem laws_heldStringS_l0 (m n : Nat) (h : m + n < 4611686018427387904) : ∀ (d i : Nat), i + d = n →
    Ev (fun k => laws_heldStringS.l0 k (mtS m n) ((m + i : Nat) : Int) (i : Int)) ((m + n : Nat) : Int)
  | 0, i, hi => by
    refine ev_s0 (fun k => ?_)
    simp only [laws_heldStringS.l0, mtS_length]
    rw [if_neg (by omega), show m + i = m + n by omega]
  | d + 1, i, hi => by
    have ih := laws_heldStringS_l0 m n h d (i + 1) (by omega)
    have hm := mt_ev ((m + i : Nat) : Int) (by omega) (by omega)
    refine ev_s2 ih hm (fun k e e2 => ?_)
    simp only [laws_heldStringS.l0, mtS_length]
    have e3 : rdOf ByteArray.empty (mtS m n) (i : Int) = mt ((m + i : Nat) : Int) := by
      simp [rdOf, mtS, List.getD_eq_getElem?_getD, show i < n by omega]
    rw [if_pos (by omega), if_pos (by omega), e2, Option.bind_some, e3, if_pos rfl, show wrap64 (((m + i : Nat) : Int) + 1) = ((m + (i + 1) : Nat) : Int) by unfold wrap64; omega, show wrap64 ((i : Int) + 1) = ((i + 1 : Nat) : Int) by unfold wrap64; omega]
    exact e
theorem laws_heldStringS_ev (m n : Nat) (h : m + n < 4611686018427387904) : Ev (fun k => laws_heldStringS.f k (mtS m n) (m : Int)) ((m + n : Nat) : Int) := by
  have := laws_heldStringS_l0 m n h n 0 (by omega)
  simpa [laws_heldStringS.f] using this
theorem laws_eqStringS_l0 (xs : List ByteArray) (h : xs.length < 4611686018427387904) : ∀ (d i : Nat), i + d = xs.length → Ev (fun k => laws_eqStringS.l0 k xs xs (i : Int)) true
  | 0, i, hi => by
    refine ev_s0 (fun k => ?_)
    simp only [laws_eqStringS.l0]
    rw [if_neg (by omega)]
  | d + 1, i, hi => by
    refine ev_s1 (laws_eqStringS_l0 xs h d (i + 1) (by omega)) (fun k e => ?_)
    simp only [laws_eqStringS.l0, if_true]
    rw [if_pos (by omega), if_pos (by omega), if_pos (by omega), show wrap64 ((i : Int) + 1) = ((i + 1 : Nat) : Int) by unfold wrap64; omega]
    exact e
theorem laws_eqStringS_ev (xs : List ByteArray) (h : xs.length < 4611686018427387904) : Ev (fun k => laws_eqStringS.f k xs xs) true := by
  refine ev_a1 (laws_eqStringS_l0 xs h xs.length 0 (by omega)) (fun k e => ?_)
  simp only [laws_eqStringS.f, if_true]
  exact e

theorem FnExactPartsOf : laws_FnExactPartsOf.Pure := by
  intro a0 hs
  have hl := partsR_length a0
  by_cases hb : (a0.size : Int) > 1048576
  · exact ⟨0, by simp only [laws_FnExactPartsOf.f]; rw [if_pos hb]⟩
  · have hp := spec_PartsOf_ev a0
    have hi := impl_PartsOf_ev a0
    have hq := laws_eqStringS_ev (partsR a0).1 (by omega)
    have hm := laws_markStringS_ev (partsR a0).1 1 (by omega)
    have hh := laws_heldStringS_ev 1 (partsR a0).1.length (by omega)
    have h1 : Ev (fun k => laws_FnExactPartsOf.j1 k (mtS 1 (partsR a0).1.length) ((1 + (partsR a0).1.length : Nat) : Int) false) true := ev_s1 hh (fun k e => by
      simp only [laws_FnExactPartsOf.j1]
      rw [if_neg (by simp), show (1 : Int) = ((1 : Nat) : Int) from rfl, e, Option.bind_some, if_neg (by omega), if_pos rfl])
    have h0 : Ev (fun k => laws_FnExactPartsOf.j0 k a0 (partsR a0).1 (partsR a0).2 (partsR a0).1 false) true := by
      refine ev_s3 (ev_pair hm hh) (ev_pair hi hq) h1 (fun k e e' e1 => ?_)
      simp only [laws_FnExactPartsOf.j0]
      rw [if_neg (by simp), show (1 : Int) = ((1 : Nat) : Int) from rfl, (ev_pair_l e), Option.bind_some, (ev_pair_r e), Option.bind_some, if_neg (by omega), if_pos rfl, (ev_pair_l e'), Option.bind_some, (ev_pair_r e'), Option.bind_some, if_pos rfl,
        show ((partsR a0).2 != (partsR a0).2) = false by simp]
      exact e1
    refine Ev.rounds (ev_a3 (ev_pair hp hi) hq h0 (fun k e e1 e2 => ?_))
    simp only [laws_FnExactPartsOf.f]
    rw [if_neg hb, (ev_pair_l e), Option.bind_some, (ev_pair_r e), Option.bind_some, e1, Option.bind_some, if_pos rfl, show ((partsR a0).2 != (partsR a0).2) = false by simp]
    exact e2
end Go.Proofs.Ytaoelobgpilmjaa.Pure
