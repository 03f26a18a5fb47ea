/- The program's NameOk returns what the reference's returns, for every text. No condition beside what the statement itself asks. -/
import Derived.Test.YtodicbbeaidibaaDoorPFnExactNameOkx2
set_option linter.unusedVariables false
set_option linter.unusedSimpArgs false
namespace Go.Proofs.YtodicbbeaidibaaDoor.Pure
open Go.RowKit Go.Proofs.YtodicbbeaidibaaDoor.PFnExactNameOk Go.Proofs.YtodicbbeaidibaaDoorW.PrintWords Go.Proofs.YtodicbbeaidibaaDoorW.PrintLast

theorem b_w64 {x : Int} (h0 : -9223372036854775808 ≤ x) (h1 : x ≤ 9223372036854775807) : wrap64 x = x := by unfold wrap64; omega
theorem b_i64 {x : Int} (h : (Lit.int .i64 x).wf = true) : -9223372036854775808 ≤ x ∧ x ≤ 9223372036854775807 := by
  simp only [Lit.wf, Bool.and_eq_true, decide_eq_true_eq] at h
  have h1 : IntKind.i64.min = -9223372036854775808 := by decide
  have h2 : IntKind.i64.max = 9223372036854775807 := by decide
  omega
theorem b_u32 {x : Int} (h : (Lit.int .u32 x).wf = true) : 0 ≤ x ∧ x < 4294967296 := by
  simp only [Lit.wf, Bool.and_eq_true, decide_eq_true_eq] at h
  have h1 : IntKind.u32.min = 0 := by decide
  have h2 : IntKind.u32.max = 4294967295 := by decide
  omega
theorem b_tmod {x y : Int} (h : 0 ≤ x) : Int.tmod x y = x % y := Int.tmod_eq_emod_of_nonneg h
theorem b_tdiv {x y : Int} (h : 0 ≤ x) : Int.tdiv x y = x / y := Int.tdiv_eq_ediv_of_nonneg h
theorem b_ev_eq {α : Type} {g : Nat → Option α} {r r' : α} (h : Ev g r) (e : r = r') : Ev g r' := e ▸ h
theorem b_two {α β : Type} {g : Nat → Option α} {f : Nat → Option β} {a : α} {b : β} (h : Ev g a) (h' : Ev f b) : ∃ k, g k = some a ∧ f k = some b := by
  obtain ⟨K, h⟩ := h
  obtain ⟨K', h'⟩ := h'
  exact ⟨max K K', h _ (by omega), h' _ (by omega)⟩
theorem b_list_take_succ {α : Type} (l : List α) (i : Nat) (h : i < l.length) : l.take (i + 1) = l.take i ++ [l[i]] := by
  rw [List.take_succ_eq_append_getElem h]
theorem ev_a0 {α : Type} {F : Nat → Option α} {r : α} (H : ∀ k, F k = some r) : Ev F r := ⟨0, fun k _ => H k⟩
theorem ev_s0 {α : Type} {F : Nat → Option α} {r : α} (H : ∀ k, F (k + 1) = some r) : Ev F r := by
  refine ⟨1, fun k hk => ?_⟩
  obtain ⟨m, rfl⟩ : ∃ m, k = m + 1 := ⟨k - 1, by omega⟩
  exact H m
theorem ev_a1 {α β : Type} {F : Nat → Option α} {r : α} {g : Nat → Option β} {a : β} (ha : Ev g a) (H : ∀ k, g k = some a → F k = some r) : Ev F r := by
  obtain ⟨K, ha⟩ := ha
  exact ⟨K, fun k hk => H k (ha k hk)⟩
theorem ev_s1 {α β : Type} {F : Nat → Option α} {r : α} {g : Nat → Option β} {a : β} (ha : Ev g a) (H : ∀ k, g k = some a → F (k + 1) = some r) : Ev F r := by
  obtain ⟨K, ha⟩ := ha
  refine ⟨K + 1, fun k hk => ?_⟩
  obtain ⟨m, rfl⟩ : ∃ m, k = m + 1 := ⟨k - 1, by omega⟩
  exact H m (ha m (by omega))
theorem ev_and {α β : Type} {g : Nat → Option α} {f : Nat → Option β} {a : α} {b : β} (ha : Ev g a) (hb : Ev f b) : ∃ K, ∀ k, K ≤ k → g k = some a ∧ f k = some b := by
  obtain ⟨K, ha⟩ := ha
  obtain ⟨K', hb⟩ := hb
  exact ⟨max K K', fun k hk => ⟨ha k (by omega), hb k (by omega)⟩⟩
theorem ev_a2 {α β γ : Type} {F : Nat → Option α} {r : α} {g : Nat → Option β} {a : β} {f : Nat → Option γ} {b : γ} (ha : Ev g a) (hb : Ev f b) (H : ∀ k, g k = some a → f k = some b → F k = some r) : Ev F r := by
  obtain ⟨K, h⟩ := ev_and ha hb
  exact ⟨K, fun k hk => H k (h k hk).1 (h k hk).2⟩
theorem ev_s2 {α β γ : Type} {F : Nat → Option α} {r : α} {g : Nat → Option β} {a : β} {f : Nat → Option γ} {b : γ} (ha : Ev g a) (hb : Ev f b) (H : ∀ k, g k = some a → f k = some b → F (k + 1) = some r) : Ev F r := by
  obtain ⟨K, h⟩ := ev_and ha hb
  refine ⟨K + 1, fun k hk => ?_⟩
  obtain ⟨m, rfl⟩ : ∃ m, k = m + 1 := ⟨k - 1, by omega⟩
  exact H m (h m (by omega)).1 (h m (by omega)).2
theorem ev_a3 {α β γ δ : Type} {F : Nat → Option α} {r : α} {g : Nat → Option β} {a : β} {f : Nat → Option γ} {b : γ} {e : Nat → Option δ} {c : δ} (ha : Ev g a) (hb : Ev f b) (hc : Ev e c) (H : ∀ k, g k = some a → f k = some b → e k = some c → F k = some r) : Ev F r := by
  obtain ⟨K, h⟩ := ev_and ha hb
  obtain ⟨K', h'⟩ := hc
  exact ⟨max K K', fun k hk => H k (h k (by omega)).1 (h k (by omega)).2 (h' k (by omega))⟩
theorem ev_s3 {α β γ δ : Type} {F : Nat → Option α} {r : α} {g : Nat → Option β} {a : β} {f : Nat → Option γ} {b : γ} {e : Nat → Option δ} {c : δ} (ha : Ev g a) (hb : Ev f b) (hc : Ev e c) (H : ∀ k, g k = some a → f k = some b → e k = some c → F (k + 1) = some r) : Ev F r := by
  obtain ⟨K, h⟩ := ev_and ha hb
  obtain ⟨K', h'⟩ := hc
  refine ⟨max K K' + 1, fun k hk => ?_⟩
  obtain ⟨m, rfl⟩ : ∃ m, k = m + 1 := ⟨k - 1, by omega⟩
  exact H m (h m (by omega)).1 (h m (by omega)).2 (h' m (by omega))
def evp {α β : Type} (x : Option α) (y : Option β) : Option (α × β) := x.bind fun a => y.bind fun b => some (a, b)
theorem ev_pair {α β : Type} {g : Nat → Option α} {f : Nat → Option β} {a : α} {b : β} (ha : Ev g a) (hb : Ev f b) : Ev (fun k => evp (g k) (f k)) (a, b) :=
  ev_a2 ha hb (fun k e e2 => by simp [evp, e, e2])
theorem ev_pair_l {α β : Type} {x : Option α} {y : Option β} {a : α} {b : β} (h : evp x y = some (a, b)) : x = some a := by
  unfold evp at h
  cases x with
  | none => simp at h
  | some x => cases y with
    | none => simp at h
    | some y => simp at h; simp [h.1]
theorem ev_pair_r {α β : Type} {x : Option α} {y : Option β} {a : α} {b : β} (h : evp x y = some (a, b)) : y = some b := by
  unfold evp at h
  cases x with
  | none => simp at h
  | some x => cases y with
    | none => simp at h
    | some y => simp at h; simp [h.2]

open Given
def keyIn (l : List ByteArray) (s : ByteArray) : Bool := l.any fun w => decide (w.toList = s.toList)
theorem keyIn_step (l : List ByteArray) (i : Nat) (h : i < l.length) (s : ByteArray) : keyIn (l.drop i) s = if (rdOf ByteArray.empty l (i : Int)).toList = s.toList then true else keyIn (l.drop (i + 1)) s := by
  rw [List.drop_eq_getElem_cons h]
  have e : rdOf ByteArray.empty l (i : Int) = l[i] := by simp [rdOf, List.getD, List.getElem?_eq_getElem h]
  rw [e]
  unfold keyIn
  rw [List.any_cons]
  by_cases c : l[i].toList = s.toList
  · rw [if_pos c, decide_eq_true c]; rfl
  · rw [if_neg c, decide_eq_false c]; rfl
theorem spec_KeyWord_l0_ev (s : ByteArray) (l : List ByteArray) (hl : l.length ≤ 1000) : ∀ n i : Nat, l.length - i = n → i ≤ l.length → Ev (fun k => spec_KeyWord.l0 k s l (i : Int)) (keyIn (l.drop i) s)
  | 0, i, hn, hi => ev_s0 fun k => by
    have : ¬ (i : Int) < (l.length : Int) := by omega
    have e : l.drop i = [] := List.drop_eq_nil_of_le (by omega)
    rw [spec_KeyWord.l0, if_neg this, e]; rfl
  | n + 1, i, hn, hi => ev_s1 (spec_KeyWord_l0_ev s l hl n (i + 1) (by omega) (by omega)) fun k h => by
    have q1 : (i : Int) < (l.length : Int) := by omega
    have q2 : (0 : Int) ≤ i := by omega
    have q3 : i < l.length := by omega
    have e : wrap64 ((i : Int) + 1) = ((i + 1 : Nat) : Int) := by rw [b_w64 (by omega) (by omega)]; omega
    rw [spec_KeyWord.l0, if_pos q1, if_pos q2, e, keyIn_step l i q3 s]
    by_cases c : (rdOf ByteArray.empty l (i : Int)).toList = s.toList
    · rw [if_pos c, if_pos c]
    · rw [if_neg c, if_neg c]; exact h
theorem impl_oneOf_l0_ev (s : ByteArray) (l : List ByteArray) (hl : l.length ≤ 1000) : ∀ n i : Nat, l.length - i = n → i ≤ l.length → Ev (fun k => impl_oneOf.l0 k s l (l.length : Int) (i : Int)) (keyIn (l.drop i) s)
  | 0, i, hn, hi => ev_s0 fun k => by
    have : ¬ (i : Int) < (l.length : Int) := by omega
    have e : l.drop i = [] := List.drop_eq_nil_of_le (by omega)
    rw [impl_oneOf.l0, if_neg this, e]; rfl
  | n + 1, i, hn, hi => ev_s1 (impl_oneOf_l0_ev s l hl n (i + 1) (by omega) (by omega)) fun k h => by
    have q1 : (i : Int) < (l.length : Int) := by omega
    have q2 : (0 : Int) ≤ i := by omega
    have q3 : i < l.length := by omega
    have e : wrap64 ((i : Int) + 1) = ((i + 1 : Nat) : Int) := by rw [b_w64 (by omega) (by omega)]; omega
    rw [impl_oneOf.l0, if_pos q1, if_pos q2, if_pos q1, e, keyIn_step l i q3 s]
    by_cases c : (rdOf ByteArray.empty l (i : Int)).toList = s.toList
    · rw [if_pos c, if_pos c]
    · rw [if_neg c, if_neg c]; exact h
def theKeys : List ByteArray := [⟨#[102, 110]⟩, ⟨#[108, 101, 116]⟩, ⟨#[105, 102]⟩, ⟨#[101, 108, 115, 101]⟩, ⟨#[119, 104, 105, 108, 101]⟩, ⟨#[112, 114, 105, 110, 116]⟩, ⟨#[100, 111]⟩, ⟨#[110, 101, 119]⟩, ⟨#[99, 108, 111, 110, 101]⟩, ⟨#[109, 117, 116]⟩, ⟨#[105, 110, 112, 117, 116]⟩, ⟨#[105, 110, 116]⟩, ⟨#[98, 111, 120]⟩, ⟨#[114, 101, 116]⟩]
theorem theKeys_spec : spec_l03Keys.f = some theKeys := rfl
theorem theKeys_split : strings_Split.f (⟨#[102, 110, 32, 108, 101, 116, 32, 105, 102, 32, 101, 108, 115, 101, 32, 119, 104, 105, 108, 101, 32, 112, 114, 105, 110, 116, 32, 100, 111, 32, 110, 101, 119, 32, 99, 108, 111, 110, 101, 32, 109, 117, 116, 32, 105, 110, 112, 117, 116, 32, 105, 110, 116, 32, 98, 111, 120, 32, 114, 101, 116]⟩ : ByteArray) (⟨#[32]⟩ : ByteArray) = some theKeys := by
  kernel_rfl
theorem spec_KeyWord_ev (s : ByteArray) : Ev (fun k => spec_KeyWord.f k s) (keyIn theKeys s) :=
  ev_a1 (spec_KeyWord_l0_ev s theKeys (by decide) 14 0 rfl (by decide)) fun k h => by
    rw [spec_KeyWord.f, theKeys_spec]; exact h
theorem impl_KeyWord_ev (s : ByteArray) : Ev (fun k => impl_KeyWord.f k s) (keyIn theKeys s) :=
  ev_a1 (impl_oneOf_l0_ev s theKeys (by decide) 14 0 rfl (by decide)) fun k h => by
    rw [impl_KeyWord.f, impl_oneOf.f, theKeys_split, Option.bind_some]
    have h' : impl_oneOf.l0 k s theKeys (theKeys.length : Int) 0 = some (keyIn theKeys s) := h
    rw [h']; rfl

def isLe (x : Int) : Bool := decide (97 ≤ x ∧ x ≤ 122)
def isFi (x : Int) : Bool := decide (48 ≤ x ∧ x ≤ 57)
theorem spec_letter_is (x : Int) : spec_l03Letter.f x = some (isLe x) := by
  unfold spec_l03Letter.f isLe
  by_cases c : x ≥ 97
  · rw [if_pos c]; by_cases d : x ≤ 122 <;> simp [d, c]
  · rw [if_neg c]; simp; intro h; omega
theorem spec_figure_is (x : Int) : spec_l03Figure.f x = some (isFi x) := by
  unfold spec_l03Figure.f isFi
  by_cases c : x ≥ 48
  · rw [if_pos c]; by_cases d : x ≤ 57 <;> simp [d, c]
  · rw [if_neg c]; simp; intro h; omega
theorem impl_letter_is (x : Int) : impl_isLetter.f x = some (isLe x) := spec_letter_is x
theorem impl_figure_is (x : Int) : impl_isFigure.f x = some (isFi x) := spec_figure_is x
theorem spec_in_is (x y z : Int) : spec_l01In.f x y z = some (decide (y ≤ x ∧ x ≤ z)) := by
  unfold spec_l01In.f
  by_cases c : x ≥ y
  · rw [if_pos c]; by_cases d : x ≤ z <;> simp [d, c]
  · rw [if_neg c]; simp; intro h; omega
theorem impl_in_is (x y z : Int) : impl_in.f x y z = some (decide (y ≤ x ∧ x ≤ z)) := spec_in_is x y z
def allAl (s : ByteArray) : Nat → Nat → Bool
  | 0, _ => true
  | n + 1, i => if isLe (bt s (i : Int)) = true then allAl s n (i + 1) else if isFi (bt s (i : Int)) = true then allAl s n (i + 1) else false
theorem spec_NameOk_l0_ev (s : ByteArray) (hs : s.size ≤ 1000) : ∀ n i : Nat, s.size - i = n → i ≤ s.size → Ev (fun k => spec_NameOk.l0 k s (i : Int)) (allAl s n i)
  | 0, i, hn, hi => ev_s0 fun k => by
    have : ¬ (i : Int) < (s.size : Int) := by omega
    rw [spec_NameOk.l0, if_neg this]; rfl
  | n + 1, i, hn, hi => ev_s1 (spec_NameOk_l0_ev s hs n (i + 1) (by omega) (by omega)) fun k h => by
    have q1 : (i : Int) < (s.size : Int) := by omega
    have q2 : (0 : Int) ≤ i := by omega
    have e : wrap64 ((i : Int) + 1) = ((i + 1 : Nat) : Int) := by rw [b_w64 (by omega) (by omega)]; omega
    rw [spec_NameOk.l0, if_pos q1, if_pos q2, e, spec_letter_is, spec_figure_is, Option.bind_some, Option.bind_some, h, allAl]
    cases isLe (bt s (i : Int)) <;> cases isFi (bt s (i : Int)) <;> rfl
theorem impl_NameOk_l0_ev (s : ByteArray) (hs : s.size ≤ 1000) : ∀ n i : Nat, s.size - i = n → i ≤ s.size → Ev (fun k => impl_NameOk.l0 k s (i : Int)) (allAl s n i && !keyIn theKeys s)
  | 0, i, hn, hi => ev_s1 (impl_KeyWord_ev s) fun k h => by
    have : ¬ (i : Int) < (s.size : Int) := by omega
    have h2 := impl_KeyWord.mono s k _ h
    rw [impl_NameOk.l0, if_neg this, h]; rfl
  | n + 1, i, hn, hi => ev_s1 (impl_NameOk_l0_ev s hs n (i + 1) (by omega) (by omega)) fun k h => by
    have q1 : (i : Int) < (s.size : Int) := by omega
    have q2 : (0 : Int) ≤ i := by omega
    have e : wrap64 ((i : Int) + 1) = ((i + 1 : Nat) : Int) := by rw [b_w64 (by omega) (by omega)]; omega
    rw [impl_NameOk.l0, if_pos q1, if_pos q2, e, impl_letter_is, impl_figure_is, Option.bind_some, Option.bind_some, h, allAl]
    cases isLe (bt s (i : Int)) <;> cases isFi (bt s (i : Int)) <;> rfl
def nameOk (s : ByteArray) : Bool := decide (1 ≤ s.size ∧ s.size ≤ 8) && isLe (bt s 0) && allAl s s.size 0 && !keyIn theKeys s
theorem spec_NameOk_ev (s : ByteArray) : Ev (fun k => spec_NameOk.f k s) (nameOk s) := by
  by_cases q : 1 ≤ s.size ∧ s.size ≤ 8
  · have q1 : 0 < (s.size : Int) := by omega
    have q2 : (1 : Int) ≤ (s.size : Int) ∧ (s.size : Int) ≤ 8 := by omega
    obtain ⟨K, H⟩ := ev_and (spec_KeyWord_ev s) (spec_NameOk_l0_ev s (by omega) s.size 0 (by omega) (by omega))
    refine ⟨K + 1, fun k hk => ?_⟩
    obtain ⟨m, rfl⟩ : ∃ m, k = m + 1 := ⟨k - 1, by omega⟩
    have h1 := (H (m + 1) (by omega)).1
    have h2 := (H m (by omega)).2
    have h2' : spec_NameOk.l0 m s 0 = some (allAl s s.size 0) := h2
    show spec_NameOk.f (m + 1) s = _
    rw [spec_NameOk.f, spec_in_is, Option.bind_some, decide_eq_true q2, if_pos rfl, if_pos q1, spec_letter_is, Option.bind_some, h1, Option.bind_some, nameOk, decide_eq_true q, spec_NameOk.j0, spec_NameOk.j0, h2']
    cases isLe (bt s 0) <;> cases keyIn theKeys s <;> cases allAl s s.size 0 <;> rfl
  · have q2 : ¬ ((1 : Int) ≤ (s.size : Int) ∧ (s.size : Int) ≤ 8) := by omega
    refine ⟨1, fun k hk => ?_⟩
    obtain ⟨m, rfl⟩ : ∃ m, k = m + 1 := ⟨k - 1, by omega⟩
    show spec_NameOk.f (m + 1) s = _
    rw [spec_NameOk.f, spec_in_is, Option.bind_some, decide_eq_false q2, nameOk, decide_eq_false q, spec_NameOk.j0]
    rfl
theorem impl_NameOk_ev (s : ByteArray) : Ev (fun k => impl_NameOk.f k s) (nameOk s) := by
  by_cases q : 1 ≤ s.size ∧ s.size ≤ 8
  · have q1 : 0 < (s.size : Int) := by omega
    have q2 : (1 : Int) ≤ (s.size : Int) ∧ (s.size : Int) ≤ 8 := by omega
    obtain ⟨K, H⟩ := impl_NameOk_l0_ev s (by omega) s.size 0 (by omega) (by omega)
    refine ⟨K + 1, fun k hk => ?_⟩
    obtain ⟨m, rfl⟩ : ∃ m, k = m + 1 := ⟨k - 1, by omega⟩
    have h2' : impl_NameOk.l0 m s 0 = some (allAl s s.size 0 && !keyIn theKeys s) := H m (by omega)
    show impl_NameOk.f (m + 1) s = _
    rw [impl_NameOk.f, impl_in_is, Option.bind_some, decide_eq_true q2, if_pos rfl, if_pos q1, impl_letter_is, Option.bind_some, nameOk, decide_eq_true q, impl_NameOk.j0, h2']
    cases isLe (bt s 0) <;> cases keyIn theKeys s <;> cases allAl s s.size 0 <;> rfl
  · have q2 : ¬ ((1 : Int) ≤ (s.size : Int) ∧ (s.size : Int) ≤ 8) := by omega
    refine ⟨1, fun k hk => ?_⟩
    obtain ⟨m, rfl⟩ : ∃ m, k = m + 1 := ⟨k - 1, by omega⟩
    show impl_NameOk.f (m + 1) s = _
    rw [impl_NameOk.f, impl_in_is, Option.bind_some, decide_eq_false q2, nameOk, decide_eq_false q, impl_NameOk.j0]
    rfl

theorem FnExactNameOk : laws_FnExactNameOk.Pure := by
  intro a0 h0
  obtain ⟨k, e1, e2⟩ := b_two (spec_NameOk_ev a0) (impl_NameOk_ev a0)
  refine ⟨k, ?_⟩
  rw [laws_FnExactNameOk.f, e1, e2]
  by_cases c : (a0.size : Int) > 1048576
  · rw [if_pos c]
  · rw [if_neg c]; simp
end Go.Proofs.YtodicbbeaidibaaDoor.Pure
